import PyProof.Rows.All
import Wide.All
import OpenK.AllK
import Wide.FinOn
import HandS.ForMost
import HandS.Style
import HandS.IsInst
import HandS.TupAny
import HandS.DictComp
import HandS.Walk
import HandS.Replace
import KE.KDictWalk
import KE.KDictKeyed
import KE.KDictDisplayH
import KE.KeyNested
import HandS.TupLen
import HandS.Wide
import PySem.Challenge.RW_foreaft_k87_whole_counts_and_preimages
set_option maxHeartbeats 200000
/-! K87Math: the plain mathematics of the law (words, outputs of machines, histograms). Core Lean alone. -/
set_option autoImplicit false
set_option linter.all false
namespace K87

/-! ### sums over lists -/
def S {α : Type} (l : List α) (f : α → Nat) : Nat := (l.map f).sum
section
variable {α β : Type}
theorem S_nil (f : α → Nat) : S [] f = 0 := rfl
theorem S_cons (a : α) (l : List α) (f : α → Nat) : S (a :: l) f = f a + S l f := by simp [S]
theorem S_append (l m : List α) (f : α → Nat) : S (l ++ m) f = S l f + S m f := by simp [S]
theorem S_one (a : α) (f : α → Nat) : S [a] f = f a := by simp [S]
theorem S_congr {l : List α} {f g : α → Nat} (h : ∀ a ∈ l, f a = g a) : S l f = S l g := by
  unfold S; rw [List.map_congr_left h]
theorem S_zero (l : List α) : S l (fun _ => 0) = 0 := by
  induction l with
  | nil => rfl
  | cons a l ih => rw [S_cons, ih]
theorem S_add (l : List α) (f g : α → Nat) : S l (fun a => f a + g a) = S l f + S l g := by
  induction l with
  | nil => rfl
  | cons a l ih => rw [S_cons, S_cons, S_cons, ih]; omega
theorem S_mul (l : List α) (c : Nat) (f : α → Nat) : S l (fun a => c * f a) = c * S l f := by
  induction l with
  | nil => simp [S]
  | cons a l ih => rw [S_cons, S_cons, ih, Nat.mul_add]
theorem S_mulr (l : List α) (c : Nat) (f : α → Nat) : S l (fun a => f a * c) = S l f * c := by
  induction l with
  | nil => simp [S]
  | cons a l ih => rw [S_cons, S_cons, ih, Nat.add_mul]
theorem S_swap (l : List α) (m : List β) (f : α → β → Nat) : S l (fun a => S m (f a)) = S m (fun b => S l (fun a => f a b)) := by
  induction l with
  | nil => simp only [S_nil]; rw [S_zero]
  | cons a l ih => simp only [S_cons]; rw [S_add, ih]
theorem S_flatMap (l : List α) (g : α → List β) (f : β → Nat) : S (l.flatMap g) f = S l (fun a => S (g a) f) := by
  induction l with
  | nil => rfl
  | cons a l ih => rw [List.flatMap_cons, S_append, S_cons, ih]
theorem S_map (l : List α) (g : α → β) (f : β → Nat) : S (l.map g) f = S l (fun a => f (g a)) := by
  unfold S; rw [List.map_map]; rfl
theorem S_filter (l : List α) (p : α → Bool) (f : α → Nat) : S (l.filter p) f = S l (fun a => if p a = true then f a else 0) := by
  induction l with
  | nil => rfl
  | cons a l ih =>
    rw [List.filter_cons, S_cons]
    by_cases h : p a = true
    · rw [if_pos h, if_pos h, S_cons, ih]
    · rw [if_neg h, if_neg h, ih]; omega
theorem S_range_succ (n : Nat) (f : Nat → Nat) : S (List.range (n + 1)) f = S (List.range n) f + f n := by
  rw [List.range_succ, S_append, S_one]
/-- one place of a range -/
theorem S_range_one (n x : Nat) (g : Nat → Nat) : S (List.range n) (fun i => if x = i then g i else 0) = if x < n then g x else 0 := by
  induction n with
  | zero => rfl
  | succ n ih =>
    rw [S_range_succ, ih]
    by_cases h1 : x < n
    · rw [if_pos h1, if_neg (by omega), if_pos (by omega)]; rfl
    · by_cases h2 : x = n
      · subst h2; rw [if_neg h1, if_pos rfl, if_pos (by omega)]; omega
      · rw [if_neg h1, if_neg h2, if_neg (by omega)]
end

/-! ### words -/
def words (r : Nat) : Nat → List (List Nat)
  | 0 => [[]]
  | n + 1 => (List.range r).flatMap fun k => (words r n).map fun u => k :: u
theorem S_words_succ (r n : Nat) (F : List Nat → Nat) : S (words r (n + 1)) F = S (List.range r) (fun k => S (words r n) (fun u => F (k :: u))) := by
  show S ((List.range r).flatMap fun k => (words r n).map fun u => k :: u) F = _
  rw [S_flatMap]
  exact S_congr fun k _ => S_map _ _ _
theorem S_words_snoc (r n : Nat) : ∀ (F : List Nat → Nat), S (words r (n + 1)) F = S (words r n) (fun u => S (List.range r) (fun k => F (u ++ [k]))) := by
  induction n with
  | zero => intro F; rw [S_words_succ]; simp [words, S_one]
  | succ n ih =>
    intro F
    rw [S_words_succ]
    have : S (List.range r) (fun k => S (words r (n + 1)) (fun u => F (k :: u))) = S (List.range r) (fun k => S (words r n) (fun u => S (List.range r) (fun k' => F (k :: (u ++ [k']))))) :=
      S_congr fun k _ => ih _
    rw [this, S_words_succ]
    rfl
theorem S_words_rev (r n : Nat) : ∀ (F : List Nat → Nat), S (words r n) (fun u => F u.reverse) = S (words r n) F := by
  induction n with
  | zero => intro F; rfl
  | succ n ih =>
    intro F
    rw [S_words_succ, S_words_snoc, S_swap (words r n) (List.range r) (fun u k => F (u ++ [k]))]
    refine S_congr fun k _ => ?_
    have : S (words r n) (fun u => F ((k :: u).reverse)) = S (words r n) (fun u => (fun w : List Nat => F (w ++ [k])) u.reverse) := S_congr fun u _ => by rw [List.reverse_cons]
    exact this.trans (ih fun w => F (w ++ [k]))
theorem words_mem {r n : Nat} {u : List Nat} : u ∈ words r n ↔ u.length = n ∧ ∀ k ∈ u, k < r := by
  induction n generalizing u with
  | zero =>
    constructor
    · intro h
      have : u = [] := by simpa [words] using h
      subst this; simp
    · intro ⟨h, _⟩
      have : u = [] := List.length_eq_zero_iff.mp h
      subst this; simp [words]
  | succ n ih =>
    show u ∈ ((List.range r).flatMap fun k => (words r n).map fun u => k :: u) ↔ _
    rw [List.mem_flatMap]
    constructor
    · rintro ⟨k, hk, h⟩
      obtain ⟨v, hv, rfl⟩ := List.mem_map.mp h
      obtain ⟨h1, h2⟩ := ih.mp hv
      refine ⟨by simp [h1], fun x hx => ?_⟩
      rcases List.mem_cons.mp hx with rfl | hx
      · exact List.mem_range.mp hk
      · exact h2 x hx
    · rintro ⟨h1, h2⟩
      cases u with
      | nil => cases h1
      | cons k v =>
        refine ⟨k, List.mem_range.mpr (h2 k List.mem_cons_self), List.mem_map.mpr ⟨v, ih.mpr ⟨by simpa using h1, fun x hx => h2 x (List.mem_cons_of_mem _ hx)⟩, rfl⟩⟩
theorem S_words_const (r n : Nat) : S (words r n) (fun _ => 1) = r ^ n := by
  induction n with
  | zero => rfl
  | succ n ih =>
    rw [S_words_succ]
    have : S (List.range r) (fun k => S (words r n) (fun u => (fun _ => 1) (k :: u))) = S (List.range r) (fun _ => r ^ n * 1) := S_congr fun k _ => by
      rw [Nat.mul_one]; exact ih
    rw [this, S_mul]
    have : ∀ m, S (List.range m) (fun _ => 1) = m := by
      intro m; induction m with
      | zero => rfl
      | succ m ih => rw [S_range_succ, ih]
    rw [this, Nat.pow_succ]
/-- a word stands once among the words of its length -/
theorem S_words_at (r n : Nat) : ∀ (w : List Nat) (g : List Nat → Nat), S (words r n) (fun u => if w = u then g u else 0) = if w.length = n ∧ (∀ k ∈ w, k < r) then g w else 0 := by
  induction n with
  | zero =>
    intro w g
    rw [show words r 0 = [[]] from rfl, S_one]
    by_cases h : w = []
    · subst h; simp
    · rw [if_neg h, if_neg]
      exact fun q => h (List.length_eq_zero_iff.mp q.1)
  | succ n ih =>
    intro w g
    rw [S_words_succ]
    cases w with
    | nil =>
      rw [if_neg (by simp)]
      have : S (List.range r) (fun k => S (words r n) (fun u => if [] = k :: u then g (k :: u) else 0)) = S (List.range r) (fun _ => 0) := S_congr fun k _ => by
        have : S (words r n) (fun u => if [] = k :: u then g (k :: u) else 0) = S (words r n) (fun _ => 0) := S_congr fun u _ => if_neg (by simp)
        rw [this, S_zero]
      rw [this, S_zero]
    | cons a v =>
      have : S (List.range r) (fun k => S (words r n) (fun u => if a :: v = k :: u then g (k :: u) else 0)) = S (List.range r) (fun k => if a = k then (if v.length = n ∧ (∀ k ∈ v, k < r) then g (k :: v) else 0) else 0) := S_congr fun k _ => by
        by_cases h : a = k
        · subst h
          rw [if_pos rfl, ← ih v (fun u => g (a :: u))]
          refine S_congr fun u _ => ?_
          by_cases h2 : v = u
          · subst h2; rw [if_pos rfl, if_pos rfl]
          · rw [if_neg h2, if_neg (fun q => h2 (List.cons.inj q).2)]
        · rw [if_neg h]
          have : S (words r n) (fun u => if a :: v = k :: u then g (k :: u) else 0) = S (words r n) (fun _ => 0) := S_congr fun u _ => if_neg (fun q => h (List.cons.inj q).1)
          rw [this, S_zero]
      rw [this, S_range_one]
      by_cases h1 : a < r
      · rw [if_pos h1]
        by_cases h2 : v.length = n ∧ (∀ k ∈ v, k < r)
        · rw [if_pos h2, if_pos]
          exact ⟨by simp [h2.1], fun k hk => by rcases List.mem_cons.mp hk with rfl | hk; exact h1; exact h2.2 k hk⟩
        · rw [if_neg h2, if_neg]
          exact fun q => h2 ⟨by simpa using q.1, fun k hk => q.2 k (List.mem_cons_of_mem _ hk)⟩
      · rw [if_neg h1, if_neg]
        exact fun q => h1 (q.2 a List.mem_cons_self)

/-! ### machines -/
/-- the state behind a letter -/
def nx (rows : List (List Nat)) (s k : Nat) : Nat := (rows.getD s []).getD k 0
structure Mach where
  left : List (List Nat)
  right : List (List Nat)
  table : List (List (List Nat))
def Mach.tb (M : Mach) (i j k : Nat) : Nat := ((M.table.getD i []).getD j []).getD k 0
/-- the right state of a word, read from its end -/
def Mach.rst (M : Mach) (j : Nat) : List Nat → Nat
  | [] => j
  | k :: u => nx M.right (M.rst j u) k
def Mach.lst (M : Mach) (i : Nat) : List Nat → Nat
  | [] => i
  | k :: u => M.lst (nx M.left i k) u
/-- the output between two states -/
def Mach.out (M : Mach) (i j : Nat) : List Nat → List Nat
  | [] => []
  | k :: u => M.tb i (M.rst j u) k :: M.out (nx M.left i k) j u
/-- rows of states -/
structure Rows (rows : List (List Nat)) (r : Nat) : Prop where
  pos : 0 < rows.length
  len : ∀ row ∈ rows, row.length = r
  lt : ∀ row ∈ rows, ∀ s ∈ row, s < rows.length
structure Mach.Ok (M : Mach) (r s : Nat) : Prop where
  left : Rows M.left r
  right : Rows M.right r
  tlen : M.table.length = M.left.length
  trow : ∀ row ∈ M.table, row.length = M.right.length
  tcell : ∀ row ∈ M.table, ∀ c ∈ row, c.length = r ∧ ∀ k ∈ c, k < s
theorem getD_mem {α : Type} {l : List α} {i : Nat} {d : α} (h : i < l.length) : l.getD i d ∈ l := by
  rw [List.getD_eq_getElem?_getD, List.getElem?_eq_getElem h]; exact List.getElem_mem h
theorem Rows.nx {rows : List (List Nat)} {r : Nat} (h : Rows rows r) {s k : Nat} (hs : s < rows.length) (hk : k < r) : nx rows s k < rows.length := by
  have h1 : rows.getD s [] ∈ rows := getD_mem hs
  refine h.lt _ h1 _ (getD_mem ?_)
  rw [h.len _ h1]; exact hk
theorem Mach.Ok.tb {M : Mach} {r s : Nat} (h : M.Ok r s) {i j k : Nat} (hi : i < M.left.length) (hj : j < M.right.length) (hk : k < r) : M.tb i j k < s := by
  have h1 : M.table.getD i [] ∈ M.table := getD_mem (by rw [h.tlen]; exact hi)
  have h2 : (M.table.getD i []).getD j [] ∈ M.table.getD i [] := getD_mem (by rw [h.trow _ h1]; exact hj)
  obtain ⟨h3, h4⟩ := h.tcell _ h1 _ h2
  exact h4 _ (getD_mem (by rw [h3]; exact hk))
theorem Mach.Ok.rst {M : Mach} {r s : Nat} (h : M.Ok r s) {j : Nat} (hj : j < M.right.length) : ∀ {u : List Nat}, (∀ k ∈ u, k < r) → M.rst j u < M.right.length
  | [], _ => hj
  | k :: u, hu => h.right.nx (h.rst hj fun x hx => hu x (List.mem_cons_of_mem _ hx)) (hu k List.mem_cons_self)
theorem Mach.Ok.lst {M : Mach} {r s : Nat} (h : M.Ok r s) : ∀ {u : List Nat} {i : Nat}, i < M.left.length → (∀ k ∈ u, k < r) → M.lst i u < M.left.length
  | [], _, hi, _ => hi
  | k :: u, _, hi, hu => h.lst (u := u) (h.left.nx hi (hu k List.mem_cons_self)) fun x hx => hu x (List.mem_cons_of_mem _ hx)
theorem Mach.Ok.out {M : Mach} {r s : Nat} (h : M.Ok r s) {j : Nat} (hj : j < M.right.length) : ∀ {u : List Nat} {i : Nat}, i < M.left.length → (∀ k ∈ u, k < r) → ∀ x ∈ M.out i j u, x < s
  | [], _, _, _, x, hx => by cases hx
  | k :: u, i, hi, hu, x, hx => by
    have hu' : ∀ k ∈ u, k < r := fun x hx => hu x (List.mem_cons_of_mem _ hx)
    have hk := hu k List.mem_cons_self
    rcases List.mem_cons.mp hx with rfl | hx
    · exact h.tb hi (h.rst hj hu') hk
    · exact h.out (u := u) hj (h.left.nx hi hk) hu' x hx
theorem Mach.out_length (M : Mach) (j : Nat) : ∀ (u : List Nat) (i : Nat), (M.out i j u).length = u.length
  | [], _ => rfl
  | k :: u, i => by show (M.out (nx M.left i k) j u).length + 1 = u.length + 1; rw [M.out_length j u]
theorem Mach.rst_snoc (M : Mach) (j k : Nat) : ∀ u : List Nat, M.rst j (u ++ [k]) = M.rst (nx M.right j k) u
  | [] => rfl
  | a :: u => by show nx M.right (M.rst j (u ++ [k])) a = nx M.right (M.rst (nx M.right j k) u) a; rw [M.rst_snoc j k u]
theorem Mach.lst_snoc (M : Mach) (k : Nat) : ∀ (u : List Nat) (i : Nat), M.lst i (u ++ [k]) = nx M.left (M.lst i u) k
  | [], _ => rfl
  | a :: u, i => M.lst_snoc k u (nx M.left i a)
theorem Mach.out_snoc (M : Mach) (j k : Nat) : ∀ (u : List Nat) (i : Nat), M.out i j (u ++ [k]) = M.out i (nx M.right j k) u ++ [M.tb (M.lst i u) j k]
  | [], _ => rfl
  | a :: u, i => by
    show M.tb i (M.rst j (u ++ [k])) a :: M.out (nx M.left i a) j (u ++ [k]) = M.tb i (M.rst (nx M.right j k) u) a :: (M.out (nx M.left i a) (nx M.right j k) u ++ [M.tb (M.lst (nx M.left i a) u) j k])
    rw [M.rst_snoc, M.out_snoc j k u]

/-! ### the mirror -/
def Mach.mir (M : Mach) : Mach := ⟨M.right, M.left, (List.range M.right.length).map fun j => M.table.map fun row => row.getD j []⟩
theorem getD_range_map {α : Type} {n j : Nat} {f : Nat → α} {d : α} (h : j < n) : ((List.range n).map f).getD j d = f j := by
  rw [List.getD_eq_getElem?_getD, List.getElem?_map, List.getElem?_range h]; rfl
theorem getD_map {α β : Type} {l : List α} {f : α → β} {i : Nat} {d : β} (e : α) (h : i < l.length) : (l.map f).getD i d = f (l.getD i e) := by
  rw [List.getD_eq_getElem?_getD, List.getElem?_map, List.getD_eq_getElem?_getD, List.getElem?_eq_getElem h]; rfl
theorem Mach.mir_tb {M : Mach} {r s : Nat} (h : M.Ok r s) {i j : Nat} (k : Nat) (hi : i < M.left.length) (hj : j < M.right.length) : M.mir.tb j i k = M.tb i j k := by
  unfold Mach.tb Mach.mir
  rw [getD_range_map hj, getD_map [] (by rw [h.tlen]; exact hi)]
theorem Mach.mir_ok {M : Mach} {r s : Nat} (h : M.Ok r s) : M.mir.Ok r s := by
  refine ⟨h.right, h.left, by simp [Mach.mir], fun row hr => ?_, fun row hr c hc => ?_⟩
  · obtain ⟨j, _, rfl⟩ := List.mem_map.mp hr
    rw [List.length_map]; exact h.tlen
  · obtain ⟨j, hj, rfl⟩ := List.mem_map.mp hr
    obtain ⟨row, hrow, rfl⟩ := List.mem_map.mp hc
    exact h.tcell _ hrow _ (getD_mem (by rw [h.trow _ hrow]; exact List.mem_range.mp hj))
theorem Mach.mir_rst (M : Mach) : ∀ (u : List Nat) (i : Nat), M.mir.rst i u.reverse = M.lst i u
  | [], _ => rfl
  | k :: u, i => by rw [List.reverse_cons, Mach.rst_snoc]; exact M.mir_rst u _
theorem Mach.mir_out {M : Mach} {r s : Nat} (h : M.Ok r s) {j : Nat} (hj : j < M.right.length) : ∀ (u : List Nat) {i : Nat}, i < M.left.length → (∀ k ∈ u, k < r) → M.mir.out j i u.reverse = (M.out i j u).reverse
  | [], _, _, _ => rfl
  | k :: u, i, hi, hu => by
    have hu' : ∀ k ∈ u, k < r := fun x hx => hu x (List.mem_cons_of_mem _ hx)
    have hk := hu k List.mem_cons_self
    rw [List.reverse_cons, Mach.out_snoc]
    show M.mir.out j (nx M.left i k) u.reverse ++ [M.mir.tb (M.mir.lst j u.reverse) i k] = (M.tb i (M.rst j u) k :: M.out (nx M.left i k) j u).reverse
    rw [M.mir_out h hj u (h.left.nx hi hk) hu', List.reverse_cons]
    have e : ∀ (u : List Nat) (j : Nat), M.mir.lst j u.reverse = M.rst j u := by
      intro u
      induction u with
      | nil => intro j; rfl
      | cons a u ih => intro j; rw [List.reverse_cons, Mach.lst_snoc, ih]; rfl
    rw [e, Mach.mir_tb h k hi (h.rst hj hu')]

/-! ### machines that follow one another -/
/-- f takes the states R of rows to states of rows' -/
structure Sim (rows rows' : List (List Nat)) (r : Nat) (R : Nat → Prop) (f : Nat → Nat) : Prop where
  start : R 0
  zero : f 0 = 0
  step : ∀ s, R s → ∀ k, k < r → R (nx rows s k) ∧ nx rows' (f s) k = f (nx rows s k)
theorem Sim.trans {a b c : List (List Nat)} {r : Nat} {R R' : Nat → Prop} {f g : Nat → Nat} (h : Sim a b r R f) (h' : Sim b c r R' g) (hR : ∀ s, R s → R' (f s)) : Sim a c r R (fun s => g (f s)) :=
  ⟨h.start, by show g (f 0) = 0; rw [h.zero, h'.zero], fun s hs k hk => by
    obtain ⟨h1, h2⟩ := h.step s hs k hk
    obtain ⟨h3, h4⟩ := h'.step (f s) (hR s hs) k hk
    exact ⟨h1, by show nx c (g (f s)) k = g (f (nx a s k)); rw [h4, h2]⟩⟩
theorem sim_rst {M M' : Mach} {r : Nat} {R : Nat → Prop} {g : Nat → Nat} (h : Sim M.right M'.right r R g) {j : Nat} (hj : R j) : ∀ {u : List Nat}, (∀ k ∈ u, k < r) → R (M.rst j u) ∧ M'.rst (g j) u = g (M.rst j u)
  | [], _ => ⟨hj, rfl⟩
  | k :: u, hu => by
    obtain ⟨h1, h2⟩ := sim_rst h hj (u := u) fun x hx => hu x (List.mem_cons_of_mem _ hx)
    obtain ⟨h3, h4⟩ := h.step _ h1 k (hu k List.mem_cons_self)
    exact ⟨h3, by show nx M'.right (M'.rst (g j) u) k = g (nx M.right (M.rst j u) k); rw [h2, h4]⟩
theorem sim_out {M M' : Mach} {r : Nat} {R R' : Nat → Prop} {f g : Nat → Nat} (hl : Sim M.left M'.left r R f) (hr : Sim M.right M'.right r R' g)
    (ht : ∀ i j k, R i → R' j → k < r → M'.tb (f i) (g j) k = M.tb i j k) {j : Nat} (hj : R' j) : ∀ {u : List Nat} {i : Nat}, R i → (∀ k ∈ u, k < r) → M'.out (f i) (g j) u = M.out i j u
  | [], _, _, _ => rfl
  | k :: u, i, hi, hu => by
    have hu' : ∀ k ∈ u, k < r := fun x hx => hu x (List.mem_cons_of_mem _ hx)
    have hk := hu k List.mem_cons_self
    obtain ⟨h1, h2⟩ := sim_rst hr hj hu'
    obtain ⟨h3, h4⟩ := hl.step i hi k hk
    show M'.tb (f i) (M'.rst (g j) u) k :: M'.out (nx M'.left (f i) k) (g j) u = M.tb i (M.rst j u) k :: M.out (nx M.left i k) j u
    rw [h2, ht i _ k hi h1 hk, h4, sim_out hl hr ht hj h3 hu']

/-! ### histograms: what a dict of counts holds -/
def wsum {κ : Type} (kvs : List (κ × Nat)) (f : κ → Nat) : Nat := S kvs fun p => p.2 * f p.1
def look {κ : Type} [DecidableEq κ] (kvs : List (κ × Nat)) (k : κ) : Nat := ((kvs.find? fun p => decide (p.1 = k)).map (·.2)).getD 0
def has {κ : Type} [DecidableEq κ] (kvs : List (κ × Nat)) (k : κ) : Bool := kvs.any fun p => decide (p.1 = k)
/-- d[k] = d.get(k, 0) + c -/
def addK {κ : Type} [DecidableEq κ] (kvs : List (κ × Nat)) (k : κ) (c : Nat) : List (κ × Nat) :=
  if has kvs k = true then kvs.map fun p => if p.1 = k then (p.1, look kvs k + c) else p else kvs ++ [(k, c)]
section
variable {κ : Type} [DecidableEq κ]
theorem has_iff {kvs : List (κ × Nat)} {k : κ} : has kvs k = true ↔ k ∈ kvs.map (·.1) := by
  unfold has
  rw [List.any_eq_true, List.mem_map]
  constructor
  · rintro ⟨p, hp, e⟩; exact ⟨p, hp, of_decide_eq_true e⟩
  · rintro ⟨p, hp, e⟩; exact ⟨p, hp, decide_eq_true e⟩
theorem look_cons (p : κ × Nat) (kvs : List (κ × Nat)) (k : κ) : look (p :: kvs) k = if p.1 = k then p.2 else look kvs k := by
  unfold look
  rw [List.find?_cons]
  by_cases h : p.1 = k
  · rw [decide_eq_true h, if_pos h]; rfl
  · rw [decide_eq_false h, if_neg h]
theorem addK_keys (kvs : List (κ × Nat)) (k : κ) (c : Nat) : (addK kvs k c).map (·.1) = if has kvs k = true then kvs.map (·.1) else kvs.map (·.1) ++ [k] := by
  unfold addK
  by_cases h : has kvs k = true
  · rw [if_pos h, if_pos h, List.map_map]
    refine List.map_congr_left fun p _ => ?_
    show (if p.1 = k then (p.1, look kvs k + c) else p).1 = p.1
    split <;> rfl
  · rw [if_neg h, if_neg h, List.map_append]; rfl
theorem addK_nodup {kvs : List (κ × Nat)} (k : κ) (c : Nat) (nd : (kvs.map (·.1)).Nodup) : ((addK kvs k c).map (·.1)).Nodup := by
  rw [addK_keys]
  by_cases h : has kvs k = true
  · rw [if_pos h]; exact nd
  · rw [if_neg h]
    have hk : k ∉ kvs.map (·.1) := fun q => h (has_iff.mpr q)
    rw [List.nodup_append]
    refine ⟨nd, by simp, fun a ha b hb => ?_⟩
    have : b = k := by simpa using hb
    subst this
    exact fun e => hk (e ▸ ha)
theorem wsum_add {kvs : List (κ × Nat)} (k : κ) (c : Nat) (nd : (kvs.map (·.1)).Nodup) (f : κ → Nat) : wsum (addK kvs k c) f = wsum kvs f + c * f k := by
  unfold addK
  by_cases h : has kvs k = true
  · rw [if_pos h]
    have gen : ∀ (l : List (κ × Nat)) (z : Nat), (l.map (·.1)).Nodup → k ∈ l.map (·.1) → wsum (l.map fun p => if p.1 = k then (p.1, z) else p) f + look l k * f k = wsum l f + z * f k := by
      intro l z
      induction l with
      | nil => intro _ h; cases h
      | cons p l ih =>
        intro nd hm
        rw [List.map_cons] at nd hm
        obtain ⟨n1, n2⟩ := List.nodup_cons.mp nd
        rw [look_cons]
        by_cases e : p.1 = k
        · rw [if_pos e, List.map_cons, if_pos e]
          have same : (l.map fun p => if p.1 = k then (p.1, z) else p) = l := by
            have : l.map (fun p => if p.1 = k then (p.1, z) else p) = l.map id := List.map_congr_left fun q hq => by
              rw [if_neg]; · rfl
              exact fun e2 => n1 (by rw [e, ← e2]; exact List.mem_map_of_mem hq)
            rw [this, List.map_id]
          rw [same]
          unfold wsum
          rw [S_cons, S_cons]
          show z * f p.1 + _ + _ = p.2 * f p.1 + _ + _
          rw [e]; omega
        · rw [if_neg e, List.map_cons, if_neg e]
          have hm' : k ∈ l.map (·.1) := by
            rcases List.mem_cons.mp hm with q | q
            · exact absurd q.symm e
            · exact q
          have := ih n2 hm'
          unfold wsum at this ⊢
          rw [S_cons, S_cons]; omega
    have := gen kvs (look kvs k + c) nd (has_iff.mp h)
    rw [Nat.add_mul] at this
    omega
  · rw [if_neg h]
    unfold wsum
    rw [S_append, S_one]
theorem wsum_nil (f : κ → Nat) : wsum ([] : List (κ × Nat)) f = 0 := rfl
theorem wsum_cons (p : κ × Nat) (l : List (κ × Nat)) (f : κ → Nat) : wsum (p :: l) f = p.2 * f p.1 + wsum l f := S_cons _ _ _
theorem wsum_append (l m : List (κ × Nat)) (f : κ → Nat) : wsum (l ++ m) f = wsum l f + wsum m f := S_append _ _ _
theorem wsum_congr {l : List (κ × Nat)} {f g : κ → Nat} (h : ∀ p ∈ l, f p.1 = g p.1) : wsum l f = wsum l g := S_congr fun p hp => by rw [h p hp]
end

end K87

set_option maxHeartbeats 200000
/-! K87Math2: numbers for keys, classes of states. Core Lean alone. -/
set_option autoImplicit false
set_option linter.all false
namespace K87
theorem nodup_map_on {α β : Type} {f : α → β} : ∀ {l : List α}, l.Nodup → (∀ x ∈ l, ∀ y ∈ l, f x = f y → x = y) → (l.map f).Nodup
  | [], _, _ => List.nodup_nil
  | a :: l, nd, h => by
    obtain ⟨n1, n2⟩ := List.nodup_cons.mp nd
    rw [List.map_cons, List.nodup_cons]
    refine ⟨fun q => ?_, nodup_map_on n2 fun x hx y hy e => h x (List.mem_cons_of_mem _ hx) y (List.mem_cons_of_mem _ hy) e⟩
    obtain ⟨b, hb, e⟩ := List.mem_map.mp q
    have := h b (List.mem_cons_of_mem _ hb) a List.mem_cons_self e
    subst this
    exact n1 hb
theorem nodup_bound {l : List Nat} {n : Nat} (nd : l.Nodup) (h : ∀ x ∈ l, x < n) : l.length ≤ n := by
  have hs : l ⊆ List.range n := fun s hs => List.mem_range.mpr (h s hs)
  have := List.Nodup.length_le_of_subset nd hs
  rwa [List.length_range] at this
section
variable {α : Type} [DecidableEq α]
theorem idx_cons_ne {y x : α} {xs : List α} (c : ¬ y = x) : (y :: xs).idxOf x = xs.idxOf x + 1 := by
  rw [List.idxOf_cons, show (y == x) = false from beq_eq_false_iff_ne.mpr c]; rfl
theorem idx_at : ∀ {ds : List α} {c : Nat} {k : α}, ds.Nodup → ds[c]? = some k → ds.idxOf k = c
  | [], c, k, _, h => by simp at h
  | d :: ds, 0, k, _, h => by simp at h; subst h; exact List.idxOf_cons_self
  | d :: ds, c + 1, k, nd, h => by
    have h : ds[c]? = some k := by simpa using h
    have hd : ¬ d = k := fun e => (List.nodup_cons.mp nd).1 (by rw [e]; exact List.mem_of_getElem? h)
    rw [idx_cons_ne hd, idx_at (List.nodup_cons.mp nd).2 h]
theorem at_idx {ds : List α} {k : α} (h : k ∈ ds) : ds[ds.idxOf k]? = some k := by
  have hl := List.idxOf_lt_length_of_mem h
  rw [List.getElem?_eq_getElem hl, List.getElem_idxOf]
theorem idx_inj {ds : List α} {a b : α} (ha : a ∈ ds) (hb : b ∈ ds) (e : ds.idxOf a = ds.idxOf b) : a = b := by
  have h1 := at_idx ha
  rw [e, at_idx hb] at h1
  exact (Option.some.inj h1).symm
end
/-- classes numbered from 0 to m -/
structure Parts (parts : List Nat) (m : Nat) : Prop where
  mem : ∀ c, c ∈ parts ↔ c ≤ m
/-- the distinct keys in the order of their first places -/
structure Dis {κ : Type} (keys ds : List κ) : Prop where
  nd : ds.Nodup
  iff : ∀ k, k ∈ ds ↔ k ∈ keys
  first : ∀ k r, keys = k :: r → ∃ t, ds = k :: t
theorem getD_some {α : Type} {xs : List α} {i : Nat} {x d : α} (h : xs[i]? = some x) : xs.getD i d = x := by
  rw [List.getD_eq_getElem?_getD, h]; rfl
theorem some_getD {α : Type} {xs : List α} {i : Nat} {d : α} (h : i < xs.length) : xs[i]? = some (xs.getD i d) := by
  rw [List.getD_eq_getElem?_getD, List.getElem?_eq_getElem h]; rfl
section
variable {κ : Type} [DecidableEq κ] {keys ds : List κ}
theorem Dis.parts (D : Dis keys ds) (h : keys ≠ []) : Parts (keys.map ds.idxOf) (ds.length - 1) := by
  have hp : 0 < ds.length := by
    cases keys with
    | nil => exact absurd rfl h
    | cons k r => obtain ⟨t, e⟩ := D.first k r rfl; rw [e]; exact Nat.succ_pos _
  refine ⟨fun c => ⟨fun hc => ?_, fun hc => ?_⟩⟩
  · obtain ⟨k, hk, rfl⟩ := List.mem_map.mp hc
    have := List.idxOf_lt_length_of_mem ((D.iff k).mpr hk)
    omega
  · have hl : c < ds.length := by omega
    have e := List.getElem?_eq_getElem hl
    exact List.mem_map.mpr ⟨ds[c], (D.iff _).mp (List.getElem_mem hl), idx_at D.nd e⟩
theorem Dis.zero (D : Dis keys ds) : (keys.map ds.idxOf).getD 0 0 = 0 := by
  cases keys with
  | nil => rfl
  | cons k r =>
    obtain ⟨t, e⟩ := D.first k r rfl
    rw [e]
    show List.idxOf k (k :: t) = 0
    exact List.idxOf_cons_self
theorem Dis.eq (D : Dis keys ds) {s t : Nat} (hs : s < keys.length) (ht : t < keys.length) : (keys.map ds.idxOf).getD s 0 = (keys.map ds.idxOf).getD t 0 ↔ keys[s]? = keys[t]? := by
  have e1 : (keys.map ds.idxOf).getD s 0 = ds.idxOf keys[s] := getD_some (by rw [List.getElem?_map, List.getElem?_eq_getElem hs]; rfl)
  have e2 : (keys.map ds.idxOf).getD t 0 = ds.idxOf keys[t] := getD_some (by rw [List.getElem?_map, List.getElem?_eq_getElem ht]; rfl)
  rw [e1, e2, List.getElem?_eq_getElem hs, List.getElem?_eq_getElem ht]
  exact ⟨fun e => congrArg some (idx_inj ((D.iff _).mpr (List.getElem_mem hs)) ((D.iff _).mpr (List.getElem_mem ht)) e), fun e => by rw [Option.some.inj e]⟩
end
/-- a finer numbering has no fewer classes; as many only if it is the same -/
theorem parts_le {p q : List Nat} {mp mq : Nat} (hl : p.length = q.length) (hp : Parts p mp) (hq : Parts q mq) (ref : ∀ s t, s < p.length → t < p.length → q.getD s 0 = q.getD t 0 → p.getD s 0 = p.getD t 0) : mp ≤ mq := by
  have at_ : ∀ c, c ≤ mp → p.idxOf c < p.length ∧ p.getD (p.idxOf c) 0 = c := fun c hc => ⟨List.idxOf_lt_length_of_mem ((hp.mem c).mpr hc), getD_some (at_idx ((hp.mem c).mpr hc))⟩
  have nd : ((List.range (mp + 1)).map fun c => q.getD (p.idxOf c) 0).Nodup := by
    refine nodup_map_on List.nodup_range fun x hx y hy e => ?_
    obtain ⟨x1, x2⟩ := at_ x (by have := List.mem_range.mp hx; omega)
    obtain ⟨y1, y2⟩ := at_ y (by have := List.mem_range.mp hy; omega)
    have := ref _ _ x1 y1 e
    rw [x2, y2] at this
    exact this
  have := nodup_bound (n := mq + 1) nd fun x hx => by
    obtain ⟨c, hc, rfl⟩ := List.mem_map.mp hx
    obtain ⟨c1, _⟩ := at_ c (by have := List.mem_range.mp hc; omega)
    have := (hq.mem (q.getD (p.idxOf c) 0)).mp (List.mem_of_getElem? (some_getD (d := 0) (by omega)))
    omega
  rw [List.length_map, List.length_range] at this
  omega
theorem parts_eq {p q : List Nat} {m : Nat} (hl : p.length = q.length) (hp : Parts p m) (hq : Parts q m) (ref : ∀ s t, s < p.length → t < p.length → q.getD s 0 = q.getD t 0 → p.getD s 0 = p.getD t 0)
    {s t : Nat} (hs : s < p.length) (ht : t < p.length) (e : p.getD s 0 = p.getD t 0) : q.getD s 0 = q.getD t 0 := by
  refine Classical.byContradiction fun ne => ?_
  let rep : Nat → Nat := fun c => if c = p.getD s 0 then s else p.idxOf c
  have at_ : ∀ c, c ≤ m → rep c < p.length ∧ p.getD (rep c) 0 = c := fun c hc => by
    show (if c = p.getD s 0 then s else p.idxOf c) < p.length ∧ p.getD (if c = p.getD s 0 then s else p.idxOf c) 0 = c
    by_cases h : c = p.getD s 0
    · rw [if_pos h]; exact ⟨hs, h.symm⟩
    · rw [if_neg h]; exact ⟨List.idxOf_lt_length_of_mem ((hp.mem c).mpr hc), getD_some (at_idx ((hp.mem c).mpr hc))⟩
  have nd : (q.getD t 0 :: (List.range (m + 1)).map fun c => q.getD (rep c) 0).Nodup := by
    rw [List.nodup_cons]
    refine ⟨fun hq' => ?_, nodup_map_on List.nodup_range fun x hx y hy e => ?_⟩
    · obtain ⟨c, hc, e2⟩ := List.mem_map.mp hq'
      obtain ⟨c1, c2⟩ := at_ c (by have := List.mem_range.mp hc; omega)
      have e3 := ref _ _ c1 ht e2
      rw [c2, ← e] at e3
      have : rep c = s := if_pos e3
      rw [this] at e2
      exact ne e2
    · obtain ⟨x1, x2⟩ := at_ x (by have := List.mem_range.mp hx; omega)
      obtain ⟨y1, y2⟩ := at_ y (by have := List.mem_range.mp hy; omega)
      have := ref _ _ x1 y1 e
      rw [x2, y2] at this
      exact this
  have := nodup_bound (n := m + 1) nd fun x hx => by
    rcases List.mem_cons.mp hx with rfl | hx
    · have := (hq.mem (q.getD t 0)).mp (List.mem_of_getElem? (some_getD (d := 0) (by omega)))
      omega
    · obtain ⟨c, hc, rfl⟩ := List.mem_map.mp hx
      obtain ⟨c1, _⟩ := at_ c (by have := List.mem_range.mp hc; omega)
      have := (hq.mem (q.getD (rep c) 0)).mp (List.mem_of_getElem? (some_getD (d := 0) (by omega)))
      omega
  rw [List.length_cons, List.length_map, List.length_range] at this
  omega
/-- alike states: the same mark, and alike what letters lead to -/
structure Alike {κ : Type} (rows : List (List Nat)) (marks : List κ) (parts : List Nat) (m : Nat) : Prop where
  len : parts.length = rows.length
  pm : Parts parts m
  zero : parts.getD 0 0 = 0
  mark : ∀ s t, s < rows.length → t < rows.length → parts.getD s 0 = parts.getD t 0 → marks[s]? = marks[t]?
  step : ∀ s t, s < rows.length → t < rows.length → parts.getD s 0 = parts.getD t 0 → (rows.getD s []).map (fun o => parts.getD o 0) = (rows.getD t []).map fun o => parts.getD o 0
end K87

set_option maxHeartbeats 200000
/-! K87Math3: the states of words, alike ones made one: the smaller rows follow the given ones. Core Lean alone. -/
set_option autoImplicit false
set_option linter.all false
namespace K87
/-- rows of states, not too many -/
structure Wide (rows : List (List Nat)) : Prop where
  lt : ∀ row ∈ rows, ∀ o ∈ row, o < rows.length
  few : rows.length ≤ 10000
/-- an order of states: from start on, closed -/
structure Closed (rows : List (List Nat)) (start : Nat) (os : List Nat) : Prop where
  first : ∃ r, os = start :: r
  nd : os.Nodup
  lt : ∀ s ∈ os, s < rows.length
  step : ∀ s ∈ os, ∀ o ∈ rows.getD s [], o ∈ os
/-- the rows of an order's states, numbered anew -/
def keptRows (rows : List (List Nat)) (os : List Nat) : List (List Nat) := os.map fun s => (rows.getD s []).map os.idxOf
def firsts (parts : List Nat) (m : Nat) : List Nat := (List.range (m + 1)).map parts.idxOf
def classRows (rows : List (List Nat)) (parts : List Nat) (m : Nat) : List (List Nat) := (firsts parts m).map fun s => (rows.getD s []).map fun o => parts.getD o 0
theorem getD_lmap {α β : Type} {l : List α} {f : α → β} {i : Nat} {d : β} (e : α) (h : i < l.length) : (l.map f).getD i d = f (l.getD i e) := getD_map e h
theorem getD_mapf {α β : Type} (f : α → β) (l : List α) (i : Nat) (e : α) : (l.map f).getD i (f e) = f (l.getD i e) := by
  rw [List.getD_eq_getElem?_getD, List.getD_eq_getElem?_getD, List.getElem?_map]
  cases l[i]? <;> rfl
section
variable {rows : List (List Nat)} {r : Nat} {os : List Nat}
theorem Closed.mem0 {s : Nat} (c : Closed rows s os) : s ∈ os := by obtain ⟨t, e⟩ := c.first; rw [e]; exact List.mem_cons_self
theorem Closed.idx0 {s : Nat} (c : Closed rows s os) : os.idxOf s = 0 := by obtain ⟨t, e⟩ := c.first; rw [e]; exact List.idxOf_cons_self
theorem Closed.nx {s0 s k : Nat} (c : Closed rows s0 os) (R : Rows rows r) (hs : s ∈ os) (hk : k < r) : nx rows s k ∈ os := by
  refine c.step s hs _ (getD_mem ?_)
  rw [R.len _ (getD_mem (c.lt s hs))]; exact hk
theorem Closed.len {s0 : Nat} (c : Closed rows s0 os) : os.length ≤ rows.length := nodup_bound c.nd c.lt
theorem kept_at (rows : List (List Nat)) {os : List Nat} {i : Nat} (h : i < os.length) : (keptRows rows os).getD i [] = (rows.getD (os.getD i 0) []).map os.idxOf := getD_map 0 h
theorem kept_len (rows : List (List Nat)) (os : List Nat) : (keptRows rows os).length = os.length := List.length_map _
theorem kept_rows {s0 : Nat} (c : Closed rows s0 os) (R : Rows rows r) : Rows (keptRows rows os) r := by
  refine ⟨?_, fun row hr => ?_, fun row hr o ho => ?_⟩
  · rw [kept_len]; exact List.length_pos_of_mem c.mem0
  · obtain ⟨s, hs, rfl⟩ := List.mem_map.mp hr
    rw [List.length_map]; exact R.len _ (getD_mem (c.lt s hs))
  · obtain ⟨s, hs, rfl⟩ := List.mem_map.mp hr
    obtain ⟨o', ho', rfl⟩ := List.mem_map.mp ho
    rw [kept_len]; exact List.idxOf_lt_length_of_mem (c.step s hs o' ho')
theorem sim_kept {s0 : Nat} (c : Closed rows s0 os) (R : Rows rows r) {s k : Nat} (hs : s ∈ os) (hk : k < r) : nx (keptRows rows os) (os.idxOf s) k = os.idxOf (nx rows s k) := by
  have hi := List.idxOf_lt_length_of_mem hs
  unfold K87.nx
  rw [kept_at rows hi, getD_some (at_idx hs), getD_map 0]
  rw [R.len _ (getD_mem (c.lt s hs))]; exact hk
end
section
variable {κ : Type} {rows : List (List Nat)} {r m : Nat} {parts : List Nat} {marks : List κ}
theorem firsts_at {c : Nat} (h : c ≤ m) : (firsts parts m).getD c 0 = parts.idxOf c := getD_range_map (by omega)
theorem firsts_len : (firsts parts m).length = m + 1 := by unfold firsts; rw [List.length_map, List.length_range]
theorem Alike.first (A : Alike rows marks parts m) {c : Nat} (h : c ≤ m) : parts.idxOf c < rows.length ∧ parts.getD (parts.idxOf c) 0 = c := by
  have := (A.pm.mem c).mpr h
  exact ⟨by rw [← A.len]; exact List.idxOf_lt_length_of_mem this, getD_some (at_idx this)⟩
theorem Alike.le (A : Alike rows marks parts m) {s : Nat} (h : s < rows.length) : parts.getD s 0 ≤ m := (A.pm.mem _).mp (getD_mem (by rw [A.len]; exact h))
theorem Alike.few (A : Alike rows marks parts m) : m + 1 ≤ rows.length := by
  have := List.Nodup.length_le_of_subset (List.nodup_range (n := m + 1)) (l₂ := parts) fun x hx => (A.pm.mem x).mpr (by have := List.mem_range.mp hx; omega)
  rw [List.length_range, A.len] at this
  exact this
theorem class_len : (classRows rows parts m).length = m + 1 := by unfold classRows; rw [List.length_map, firsts_len]
theorem class_rows (A : Alike rows marks parts m) (R : Rows rows r) : Rows (classRows rows parts m) r := by
  refine ⟨by rw [class_len]; exact Nat.succ_pos _, fun row hr => ?_, fun row hr o ho => ?_⟩
  · obtain ⟨s, hs, rfl⟩ := List.mem_map.mp hr
    obtain ⟨c, hc, rfl⟩ := List.mem_map.mp hs
    rw [List.length_map]; exact R.len _ (getD_mem (A.first (by have := List.mem_range.mp hc; omega)).1)
  · obtain ⟨s, hs, rfl⟩ := List.mem_map.mp hr
    obtain ⟨c, hc, rfl⟩ := List.mem_map.mp hs
    obtain ⟨o', ho', rfl⟩ := List.mem_map.mp ho
    have := A.le (R.lt _ (getD_mem (A.first (by have := List.mem_range.mp hc; omega)).1) o' ho')
    rw [class_len]; omega
theorem sim_class (A : Alike rows marks parts m) (R : Rows rows r) {s k : Nat} (hs : s < rows.length) (hk : k < r) : nx (classRows rows parts m) (parts.getD s 0) k = parts.getD (nx rows s k) 0 := by
  have hle := A.le hs
  obtain ⟨f1, f2⟩ := A.first hle
  unfold nx
  rw [show (classRows rows parts m).getD (parts.getD s 0) [] = _ from getD_map 0 (by rw [firsts_len]; omega), firsts_at hle, A.step _ s f1 hs f2, getD_map 0]
  rw [R.len _ (getD_mem hs)]; exact hk
/-- both steps in one -/
theorem sim_small {rows : List (List Nat)} {os : List Nat} {marks : List κ} {parts : List Nat} (R : Rows rows r) (c : Closed rows 0 os) (A : Alike (keptRows rows os) marks parts m) :
    Sim rows (classRows (keptRows rows os) parts m) r (fun s => s ∈ os) (fun s => parts.getD (os.idxOf s) 0) := by
  refine ⟨c.mem0, by show parts.getD (os.idxOf 0) 0 = 0; rw [c.idx0]; exact A.zero, fun s hs k hk => ⟨c.nx R hs hk, ?_⟩⟩
  have hi : os.idxOf s < (keptRows rows os).length := by rw [kept_len]; exact List.idxOf_lt_length_of_mem hs
  rw [sim_class A (kept_rows c R) hi hk, sim_kept c R hs hk]
end

/-- the parts of a least machine, its letters of any kind -/
structure Least {τ : Type} (left right : List (List Nat)) (tbl : List (List τ)) (d : τ) (r : Nat) (nl nr : List (List Nat)) (nt : List (List τ)) : Prop where
  rl : Rows nl r
  rr : Rows nr r
  ll : nl.length ≤ left.length
  lr : nr.length ≤ right.length
  tlen : nt.length = nl.length
  trow : ∀ row ∈ nt, row.length = nr.length
  tcell : ∀ row ∈ nt, ∀ c ∈ row, ∃ row' ∈ tbl, c ∈ row'
  sim : ∃ (A B : Nat → Prop) (f g : Nat → Nat), Sim left nl r A f ∧ Sim right nr r B g ∧ ∀ i j, A i → B j → i < left.length ∧ j < right.length ∧ (nt.getD (f i) []).getD (g j) d = (tbl.getD i []).getD j d
def smallOf {τ : Type} (tbl : List (List τ)) (d : τ) (lo ro : List Nat) : List (List τ) := lo.map fun i => ro.map fun j => (tbl.getD i []).getD j d
theorem small_at {τ : Type} {tbl : List (List τ)} {d : τ} {lo ro : List Nat} {i j : Nat} (hi : i < lo.length) (hj : j < ro.length) : ((smallOf tbl d lo ro).getD i []).getD j d = (tbl.getD (lo.getD i 0) []).getD (ro.getD j 0) d := by
  unfold smallOf
  rw [getD_map 0 hi, getD_map 0 hj]
theorem least_ok {τ κ : Type} {left right : List (List Nat)} {tbl : List (List τ)} {d : τ} {r ml mr : Nat} {lo ro pl pr : List Nat} {kl kr : List κ} {mark mark' : List τ → κ} (inj : ∀ a b, mark a = mark b → a = b) (inj' : ∀ a b, mark' a = mark' b → a = b)
    (RL : Rows left r) (RR : Rows right r) (htl : tbl.length = left.length) (htr : ∀ row ∈ tbl, row.length = right.length) (cl : Closed left 0 lo) (cr : Closed right 0 ro)
    (hkl : kl = (smallOf tbl d lo ro).map mark) (hkr : kr = (List.range ro.length).map fun j => mark' ((smallOf tbl d lo ro).map fun told => told.getD j d)) (Al : Alike (keptRows left lo) kl pl ml) (Ar : Alike (keptRows right ro) kr pr mr) :
    Least left right tbl d r (classRows (keptRows left lo) pl ml) (classRows (keptRows right ro) pr mr) ((firsts pl ml).map fun i => (firsts pr mr).map fun j => ((smallOf tbl d lo ro).getD i []).getD j d) := by
  have sl := sim_small RL cl Al
  have sr := sim_small RR cr Ar
  have kll : (keptRows left lo).length = lo.length := kept_len _ _
  have krl : (keptRows right ro).length = ro.length := kept_len _ _
  have fl : ∀ c, c ≤ ml → pl.idxOf c < lo.length := fun c hc => by rw [← kll]; exact (Al.first hc).1
  have fr : ∀ c, c ≤ mr → pr.idxOf c < ro.length := fun c hc => by rw [← krl]; exact (Ar.first hc).1
  refine ⟨class_rows Al (kept_rows cl RL), class_rows Ar (kept_rows cr RR), ?_, ?_, by rw [List.length_map, firsts_len, class_len], fun row hrow => ?_, fun row hrow c hc => ?_, _, _, _, _, sl, sr, fun i j hi hj => ⟨cl.lt i hi, cr.lt j hj, ?_⟩⟩
  · rw [class_len]; have := Al.few; have := cl.len; omega
  · rw [class_len]; have := Ar.few; have := cr.len; omega
  · obtain ⟨i, _, rfl⟩ := List.mem_map.mp hrow
    rw [List.length_map, firsts_len, class_len]
  · obtain ⟨i, hi, rfl⟩ := List.mem_map.mp hrow
    obtain ⟨j, hj, rfl⟩ := List.mem_map.mp hc
    obtain ⟨ci, hci, rfl⟩ := List.mem_map.mp hi
    obtain ⟨cj, hcj, rfl⟩ := List.mem_map.mp hj
    have h1 := fl ci (by have := List.mem_range.mp hci; omega)
    have h2 := fr cj (by have := List.mem_range.mp hcj; omega)
    rw [small_at h1 h2]
    have m1 : tbl.getD (lo.getD (pl.idxOf ci) 0) [] ∈ tbl := getD_mem (by rw [htl]; exact cl.lt _ (getD_mem h1))
    exact ⟨_, m1, getD_mem (by rw [htr _ m1]; exact cr.lt _ (getD_mem h2))⟩
  · have il : lo.idxOf i < lo.length := List.idxOf_lt_length_of_mem hi
    have jl : ro.idxOf j < ro.length := List.idxOf_lt_length_of_mem hj
    have hci := Al.le (by rw [kll]; exact il : lo.idxOf i < (keptRows left lo).length)
    have hcj := Ar.le (by rw [krl]; exact jl : ro.idxOf j < (keptRows right ro).length)
    have a1 := Al.first hci
    have b1 := Ar.first hcj
    have hsl : (smallOf tbl d lo ro).length = lo.length := List.length_map _
    rw [getD_map 0 (by rw [firsts_len]; omega), getD_map 0 (by rw [firsts_len]; omega), firsts_at hci, firsts_at hcj]
    -- the same row of letters
    have m1 := Al.mark _ _ a1.1 (by rw [kll]; exact il) a1.2
    rw [hkl, List.getElem?_map, List.getElem?_map, some_getD (d := []) (by rw [hsl, ← kll]; exact a1.1), some_getD (d := []) (by rw [hsl]; exact il)] at m1
    have e1 := inj _ _ (Option.some.inj m1)
    rw [e1]
    -- the same column
    have m2 := Ar.mark _ _ b1.1 (by rw [krl]; exact jl) b1.2
    rw [hkr, List.getElem?_map, List.getElem?_map, List.getElem?_range (by rw [← krl]; exact b1.1), List.getElem?_range jl] at m2
    have e2 := inj' _ _ (Option.some.inj m2)
    have e3 := congrArg (fun l : List τ => l.getD (lo.idxOf i) d) e2
    rw [getD_map [] (by rw [hsl]; exact il), getD_map [] (by rw [hsl]; exact il)] at e3
    rw [e3, small_at il jl, getD_some (at_idx hi), getD_some (at_idx hj)]
end K87

set_option maxHeartbeats 200000
/-! K87Math4: sorted places; networks of places and their automata. Core Lean alone. -/
set_option autoImplicit false
set_option linter.all false
namespace K87
/-- the numbers below 13 of a list, in order -/
def srt (xs : List Nat) : List Nat := (List.range 13).filter fun o => decide (o ∈ xs)
theorem srt_mem {xs : List Nat} (h : ∀ x ∈ xs, x < 13) {o : Nat} : o ∈ srt xs ↔ o ∈ xs := by
  unfold srt
  rw [List.mem_filter, List.mem_range]
  exact ⟨fun q => of_decide_eq_true q.2, fun q => ⟨h o q, decide_eq_true q⟩⟩
theorem srt_sub {xs : List Nat} {o : Nat} (h : o ∈ srt xs) : o ∈ xs := by
  unfold srt at h
  exact of_decide_eq_true (List.mem_filter.mp h).2
theorem srt_lt {xs : List Nat} {o : Nat} (h : o ∈ srt xs) : o < 13 := by
  unfold srt at h
  exact List.mem_range.mp (List.mem_filter.mp h).1
theorem srt_nodup (xs : List Nat) : (srt xs).Nodup := List.Pairwise.filter _ List.nodup_range
theorem srt_pw (xs : List Nat) : (srt xs).Pairwise (· < ·) := List.Pairwise.filter _ List.pairwise_lt_range
theorem srt_len (xs : List Nat) : (srt xs).length ≤ 13 := by
  have := List.length_filter_le (fun o => decide (o ∈ xs)) (List.range 13)
  rw [List.length_range] at this
  exact this
theorem srt_congr {xs ys : List Nat} (h : ∀ o, o ∈ xs ↔ o ∈ ys) : srt xs = srt ys := by
  unfold srt
  exact List.filter_congr fun o _ => by rw [decide_eq_decide]; exact h o
theorem pw_unique : ∀ {a b : List Int}, a.Pairwise (· < ·) → b.Pairwise (· < ·) → (∀ x, x ∈ a ↔ x ∈ b) → a = b
  | [], [], _, _, _ => rfl
  | [], y :: b, _, _, h => absurd ((h y).mpr List.mem_cons_self) (by simp)
  | x :: a, [], _, _, h => absurd ((h x).mp List.mem_cons_self) (by simp)
  | x :: a, y :: b, ha, hb, h => by
    have ha' := List.pairwise_cons.mp ha
    have hb' := List.pairwise_cons.mp hb
    have e : x = y := by
      rcases List.mem_cons.mp ((h x).mp List.mem_cons_self) with e | m
      · exact e
      · rcases List.mem_cons.mp ((h y).mpr List.mem_cons_self) with e | m'
        · exact e.symm
        · have := ha'.1 y m'; have := hb'.1 x m; omega
    subst e
    rw [pw_unique ha'.2 hb'.2 fun z => ?_]
    constructor
    · intro hz
      rcases List.mem_cons.mp ((h z).mp (List.mem_cons_of_mem _ hz)) with e | m
      · have := ha'.1 z hz; omega
      · exact m
    · intro hz
      rcases List.mem_cons.mp ((h z).mpr (List.mem_cons_of_mem _ hz)) with e | m
      · have := hb'.1 z hz; omega
      · exact m
/-- a sorted list of such numbers without repeats is the sorted one -/
theorem srt_is {fs xs : List Nat} {ys : List Int} (hp : ys.Perm (fs.map fun n : Nat => (n : Int))) (hs : ys.Pairwise (· ≤ ·)) (nd : fs.Nodup) (hm : ∀ o, o ∈ fs ↔ o ∈ xs) (hx : ∀ x ∈ xs, x < 13) : ys = (srt xs).map fun n : Nat => (n : Int) := by
  have ndy : ys.Nodup := hp.nodup_iff.mpr (nodup_map_on nd fun x _ y _ e => by omega)
  refine pw_unique ?_ ?_ fun z => ?_
  · refine List.Pairwise.imp (R := fun a b => a ≤ b ∧ a ≠ b) (fun ⟨h1, h2⟩ => by omega) (hs.and ndy)
  · rw [List.pairwise_map]
    exact (srt_pw xs).imp fun h => by omega
  · rw [hp.mem_iff, List.mem_map, List.mem_map]
    exact ⟨fun ⟨o, h1, h2⟩ => ⟨o, (srt_mem hx).mpr ((hm o).mp h1), h2⟩, fun ⟨o, h1, h2⟩ => ⟨o, (hm o).mpr ((srt_mem hx).mp h1), h2⟩⟩
/-- the parts of a range -/
def subs : Nat → List (List Nat)
  | 0 => [[]]
  | n + 1 => subs n ++ (subs n).map fun l => l ++ [n]
theorem subs_len (n : Nat) : (subs n).length = 2 ^ n := by
  induction n with
  | zero => rfl
  | succ n ih => show (subs n ++ (subs n).map _).length = _; rw [List.length_append, List.length_map, ih]; omega
theorem subs_mem (f : Nat → Bool) (n : Nat) : (List.range n).filter f ∈ subs n := by
  induction n with
  | zero => simp [subs]
  | succ n ih =>
    show _ ∈ subs n ++ (subs n).map _
    rw [List.range_succ, List.filter_append, List.mem_append]
    by_cases h : f n = true
    · right; rw [List.mem_map]; exact ⟨_, ih, by simp [h]⟩
    · left; simpa [h] using ih
/-- a network -/
structure Net where
  marks : List (Option Nat)
  follow : List (List Nat)
  ends : List Nat
structure Net.Ok (N : Net) : Prop where
  few : N.follow.length ≤ 13
  some : 0 < N.follow.length
  len : N.marks.length = N.follow.length
  lt : ∀ row ∈ N.follow, ∀ o ∈ row, o < N.follow.length
  wide : ∀ row ∈ N.follow, row.length ≤ 1000
  ends : N.ends.length ≤ 1000
def Net.fits (N : Net) (k o : Nat) : Bool := N.marks.getD o none == none || N.marks.getD o none == some k
def Net.onw (N : Net) (ps : List Nat) (k : Nat) : List Nat := srt (ps.flatMap fun p => (N.follow.getD p []).filter (N.fits k))
def Net.acc (N : Net) (ps : List Nat) : Bool := ps.any fun p => N.ends.contains p
def Net.desc (N : Net) (u : List Nat) : Bool := N.acc (u.foldl N.onw [0])
theorem Net.Ok.onw_lt {N : Net} (h : N.Ok) {ps : List Nat} (hp : ∀ p ∈ ps, p < N.follow.length) {k o : Nat} (ho : o ∈ N.onw ps k) : o < N.follow.length := by
  obtain ⟨p, hp', hm⟩ := List.mem_flatMap.mp (srt_sub ho)
  exact h.lt _ (getD_mem (hp p hp')) o (List.mem_filter.mp hm).1
/-- an automaton -/
structure Aut where
  rows : List (List Nat)
  acc : List Bool
def Aut.run (A : Aut) (u : List Nat) : Nat := u.foldl (fun q k => nx A.rows q k) 0
def Aut.has (A : Aut) (u : List Nat) : Bool := A.acc.getD (A.run u) false
structure Aut.Ok (A : Aut) (r : Nat) : Prop where
  rows : Rows A.rows r
  len : A.acc.length = A.rows.length
theorem sim_fold {a b : List (List Nat)} {r : Nat} {R : Nat → Prop} {f : Nat → Nat} (h : Sim a b r R f) : ∀ {u : List Nat} {q : Nat}, R q → (∀ k ∈ u, k < r) → R (u.foldl (fun q k => nx a q k) q) ∧ u.foldl (fun q k => nx b q k) (f q) = f (u.foldl (fun q k => nx a q k) q)
  | [], _, hq, _ => ⟨hq, rfl⟩
  | k :: u, q, hq, hu => by
    obtain ⟨h1, h2⟩ := h.step q hq k (hu k List.mem_cons_self)
    have := sim_fold h (u := u) h1 fun x hx => hu x (List.mem_cons_of_mem _ hx)
    rw [List.foldl_cons, List.foldl_cons, h2]
    exact this
theorem Aut.Ok.fold_lt {A : Aut} {r : Nat} (h : A.Ok r) : ∀ {u : List Nat} {q : Nat}, q < A.rows.length → (∀ k ∈ u, k < r) → u.foldl (fun q k => K87.nx A.rows q k) q < A.rows.length
  | [], _, hq, _ => hq
  | k :: u, q, hq, hu => by
    rw [List.foldl_cons]
    exact fold_lt h (h.rows.nx hq (hu k List.mem_cons_self)) fun x hx => hu x (List.mem_cons_of_mem _ hx)
theorem Rows.pos' {rows : List (List Nat)} {r : Nat} (h : Rows rows r) : 0 < rows.length := h.pos
/-- least_automaton -/
theorem least_aut {A : Aut} {r m : Nat} {κ : Type} {mk : Bool → κ} {parts os : List Nat} (inj : ∀ a b, mk a = mk b → a = b) (h : A.Ok r) (al : Alike A.rows (A.acc.map mk) parts m) (c : Closed (classRows A.rows parts m) 0 os) :
    let B : Aut := ⟨keptRows (classRows A.rows parts m) os, os.map fun s => A.acc.getD ((firsts parts m).getD s 0) false⟩
    B.Ok r ∧ B.rows.length ≤ A.rows.length ∧ ∀ u : List Nat, (∀ k ∈ u, k < r) → B.has u = A.has u := by
  have R1 := class_rows al h.rows
  have R2 := kept_rows c R1
  have s1 : Sim A.rows (classRows A.rows parts m) r (fun s => s < A.rows.length ∧ parts.getD s 0 ∈ os) (fun s => parts.getD s 0) :=
    ⟨⟨h.rows.pos, by show parts.getD 0 0 ∈ os; rw [al.zero]; exact c.mem0⟩, al.zero, fun s hs k hk => by
      have e := sim_class al h.rows hs.1 hk
      exact ⟨⟨h.rows.nx hs.1 hk, by rw [← e]; exact c.nx R1 hs.2 hk⟩, e⟩⟩
  have s2 : Sim (classRows A.rows parts m) (keptRows (classRows A.rows parts m) os) r (fun s => s ∈ os) os.idxOf :=
    ⟨c.mem0, c.idx0, fun s hs k hk => ⟨c.nx R1 hs hk, sim_kept c R1 hs hk⟩⟩
  have s := s1.trans s2 fun s hs => hs.2
  refine ⟨⟨R2, by show (os.map _).length = _; rw [List.length_map, kept_len]⟩, ?_, fun u hu => ?_⟩
  · show (keptRows _ os).length ≤ _
    rw [kept_len]
    have h1 := c.len
    rw [class_len] at h1
    have := al.few
    omega
  · obtain ⟨h1, h2⟩ := sim_fold s (u := u) s.start hu
    have e0 : os.idxOf (parts.getD 0 0) = 0 := s.zero
    rw [e0] at h2
    unfold Aut.has Aut.run
    show (os.map _).getD (u.foldl (fun q k => nx (keptRows (classRows A.rows parts m) os) q k) 0) false = _
    rw [h2]
    generalize u.foldl (fun q k => nx A.rows q k) 0 = q at h1
    have hi : os.idxOf (parts.getD q 0) < os.length := List.idxOf_lt_length_of_mem h1.2
    rw [getD_map 0 hi, getD_some (at_idx h1.2), firsts_at (al.le h1.1)]
    have fi := al.first (al.le h1.1)
    have e := al.mark _ _ fi.1 h1.1 fi.2
    rw [List.getElem?_map, List.getElem?_map, some_getD (d := false) (by rw [h.len]; exact fi.1), some_getD (d := false) (by rw [h.len]; exact h1.1)] at e
    exact inj _ _ (Option.some.inj e)
/-- where a list stands -/
def pl {α : Type} [DecidableEq α] (os : List α) (x : α) : Nat := os.idxOf x
theorem pl_lt {α : Type} [DecidableEq α] {os : List α} {x : α} (h : x ∈ os) : pl os x < os.length := List.idxOf_lt_length_of_mem h
theorem pl_at {α : Type} [DecidableEq α] {os : List α} {x : α} (h : x ∈ os) : os[pl os x]? = some x := at_idx h
theorem pl_zero {α : Type} [DecidableEq α] {t : List α} {x : α} : pl (x :: t) x = 0 := List.idxOf_cons_self
/-- the sets of places, in the order that they were found -/
structure SubC (N : Net) (r : Nat) (os : List (List Nat)) (rs : List (List Nat)) : Prop where
  first : ∃ t, os = [0] :: t
  nd : os.Nodup
  canon : ∀ ps ∈ os, ps = srt ps ∧ ∀ p ∈ ps, p < N.follow.length
  le : rs.length ≤ os.length
  row : ∀ i, i < rs.length → rs.getD i [] = (List.range r).map fun k => pl os (N.onw (os.getD i []) k)
  mem : ∀ i, i < rs.length → ∀ k, k < r → N.onw (os.getD i []) k ∈ os
theorem subc_few {os : List (List Nat)} (nd : os.Nodup) (h : ∀ ps ∈ os, ps = srt ps) : os.length ≤ 8192 := by
  have := List.Nodup.length_le_of_subset nd (l₂ := subs 13) fun ps hp => by
    rw [h ps hp]
    exact subs_mem _ 13
  rw [subs_len] at this
  omega
theorem SubC.few {N : Net} {r : Nat} {os rs : List (List Nat)} (s : SubC N r os rs) : os.length ≤ 8192 := subc_few s.nd fun ps hp => (s.canon ps hp).1
theorem SubC.ok {N : Net} {r : Nat} {os rs : List (List Nat)} (s : SubC N r os rs) (e : rs.length = os.length) : Aut.Ok ⟨rs, os.map N.acc⟩ r := by
  refine ⟨⟨?_, fun row hr => ?_, fun row hr o ho => ?_⟩, by show (os.map _).length = _; rw [List.length_map]; exact e.symm⟩
  · obtain ⟨t, et⟩ := s.first
    show 0 < rs.length
    rw [e, et]; exact Nat.succ_pos _
  · obtain ⟨i, hi, rfl⟩ := List.getElem_of_mem hr
    have := s.row i hi
    rw [List.getD_eq_getElem?_getD, List.getElem?_eq_getElem hi] at this
    rw [show rs[i] = _ from this, List.length_map, List.length_range]
  · obtain ⟨i, hi, rfl⟩ := List.getElem_of_mem hr
    have := s.row i hi
    rw [List.getD_eq_getElem?_getD, List.getElem?_eq_getElem hi] at this
    rw [show rs[i] = _ from this] at ho
    obtain ⟨k, hk, rfl⟩ := List.mem_map.mp ho
    show _ < rs.length
    rw [e]
    exact pl_lt (s.mem i hi k (List.mem_range.mp hk))
theorem SubC.fold {N : Net} {r : Nat} {os rs : List (List Nat)} (s : SubC N r os rs) (e : rs.length = os.length) : ∀ {u : List Nat} {ps : List Nat}, ps ∈ os → (∀ k ∈ u, k < r) → u.foldl N.onw ps ∈ os ∧ u.foldl (fun q k => nx rs q k) (pl os ps) = pl os (u.foldl N.onw ps)
  | [], _, hp, _ => ⟨hp, rfl⟩
  | k :: u, ps, hp, hu => by
    have hi : pl os ps < rs.length := by rw [e]; exact pl_lt hp
    have hk := hu k List.mem_cons_self
    have ep : os.getD (pl os ps) [] = ps := getD_some (pl_at hp)
    have m := s.mem _ hi k hk
    have row := s.row _ hi
    rw [ep] at m row
    have h2 : nx rs (pl os ps) k = pl os (N.onw ps k) := by
      unfold K87.nx
      rw [row, getD_range_map hk]
    rw [List.foldl_cons, List.foldl_cons, h2]
    exact SubC.fold s e m fun x hx => hu x (List.mem_cons_of_mem _ hx)
theorem SubC.has {N : Net} {r : Nat} {os rs : List (List Nat)} (s : SubC N r os rs) (e : rs.length = os.length) {u : List Nat} (hu : ∀ k ∈ u, k < r) : Aut.has ⟨rs, os.map N.acc⟩ u = N.desc u := by
  obtain ⟨t, et⟩ := s.first
  have m0 : [0] ∈ os := by rw [et]; exact List.mem_cons_self
  obtain ⟨h1, h2⟩ := s.fold e m0 hu
  have e0 : pl os [0] = 0 := by rw [et]; exact pl_zero
  rw [e0] at h2
  show (os.map N.acc).getD (u.foldl (fun q k => nx rs q k) 0) false = _
  rw [h2, getD_map [] (pl_lt h1), getD_some (pl_at h1)]
  rfl
end K87

set_option maxHeartbeats 200000
/-! K87Math5: what the histograms hold; the equations of the law. Core Lean alone. -/
set_option autoImplicit false
set_option linter.all false
namespace K87
theorem S_const0 {α : Type} {l : List α} {f : α → Nat} (h : ∀ a ∈ l, f a = 0) : S l f = 0 := by
  rw [S_congr h, S_zero]
theorem S_if {α : Type} {l : List α} {c : Prop} [Decidable c] {f : α → Nat} : S l (fun a => if c then f a else 0) = if c then S l f else 0 := by
  by_cases h : c
  · rw [if_pos h]; exact S_congr fun a _ => by rw [if_pos h]
  · rw [if_neg h]; exact S_const0 fun a _ => by rw [if_neg h]
/-- the outputs' prefixes: what count_outputs' dict holds behind n letters -/
def fwd (M : Mach) (A : Aut) (n : Nat) (f : List Nat → Nat) : Nat := S (words 2 n) fun u => S (List.range M.right.length) fun o => f [M.lst 0 u, o, A.run (M.out 0 o u)]
def stepF (M : Mach) (A : Aut) (f : List Nat → Nat) (key : List Nat) : Nat := S (List.range M.right.length) fun o => S (List.range 2) fun k => if nx M.right o k = key.getD 1 0 then f [nx M.left (key.getD 0 0) k, o, nx A.rows (key.getD 2 0) (M.tb (key.getD 0 0) o k)] else 0
theorem Aut.run_snoc (A : Aut) (u : List Nat) (k : Nat) : A.run (u ++ [k]) = nx A.rows (A.run u) k := by
  unfold Aut.run
  rw [List.foldl_append]; rfl
theorem fwd_zero (M : Mach) (A : Aut) (f : List Nat → Nat) : fwd M A 0 f = S (List.range M.right.length) fun o => f [0, o, 0] := by
  unfold fwd
  rw [show words 2 0 = [[]] from rfl, S_one]; rfl
theorem fwd_step {M : Mach} (ok : M.Ok 2 2) (A : Aut) (n : Nat) (f : List Nat → Nat) : fwd M A n (stepF M A f) = fwd M A (n + 1) f := by
  unfold fwd
  rw [S_words_snoc]
  refine S_congr fun u hu => ?_
  obtain ⟨_, hu2⟩ := words_mem.mp hu
  show S (List.range M.right.length) (fun j => S (List.range M.right.length) fun o => S (List.range 2) fun k => if nx M.right o k = j then f [nx M.left (M.lst 0 u) k, o, nx A.rows (A.run (M.out 0 j u)) (M.tb (M.lst 0 u) o k)] else 0) = _
  rw [S_swap]
  rw [S_swap (List.range 2) (List.range M.right.length)]
  refine S_congr fun o ho => ?_
  rw [S_swap]
  refine S_congr fun k hk => ?_
  have hj := ok.right.nx (List.mem_range.mp ho) (List.mem_range.mp hk)
  rw [S_range_one M.right.length (nx M.right o k) (fun j => f [nx M.left (M.lst 0 u) k, o, nx A.rows (A.run (M.out 0 j u)) (M.tb (M.lst 0 u) o k)]), if_pos hj, M.out_snoc, M.lst_snoc, A.run_snoc]
/-- count_outputs -/
def cnt (M : Mach) (p : List Nat → Bool) (n : Nat) : Nat := S (words 2 n) fun u => if p (M.out 0 0 u) = true then 1 else 0
theorem fwd_end {M : Mach} (ok : M.Ok 2 2) {A : Aut} (n : Nat) : fwd M A n (fun key => if key.getD 1 0 = 0 ∧ A.acc.getD (key.getD 2 0) false = true then 1 else 0) = cnt M A.has n := by
  unfold fwd cnt
  refine S_congr fun u _ => ?_
  show S (List.range M.right.length) (fun o => if o = 0 ∧ A.acc.getD (A.run (M.out 0 o u)) false = true then 1 else 0) = _
  have : S (List.range M.right.length) (fun o => if o = 0 ∧ A.acc.getD (A.run (M.out 0 o u)) false = true then 1 else 0) = S (List.range M.right.length) (fun o => if 0 = o then (if A.acc.getD (A.run (M.out 0 o u)) false = true then 1 else 0) else 0) := S_congr fun o _ => by
    by_cases h : o = 0
    · subst h; simp
    · rw [if_neg (fun z => h z.1), if_neg (fun z => h z.symm)]
  rw [this, S_range_one, if_pos ok.right.pos]
  rfl
theorem cnt_congr {M : Mach} (ok : M.Ok 2 2) {p q : List Nat → Bool} (h : ∀ u : List Nat, (∀ k ∈ u, k < 2) → p u = q u) (n : Nat) : cnt M p n = cnt M q n := by
  unfold cnt
  refine S_congr fun u hu => ?_
  rw [h _ (ok.out ok.right.pos ok.left.pos (words_mem.mp hu).2)]
theorem cnt_mach {M M' : Mach} (h : ∀ u : List Nat, (∀ k ∈ u, k < 2) → M'.out 0 0 u = M.out 0 0 u) (p : List Nat → Bool) (n : Nat) : cnt M' p n = cnt M p n := by
  unfold cnt
  refine S_congr fun u hu => ?_
  rw [h u (words_mem.mp hu).2]
/-- the inputs of an output's end: what the layers hold -/
def bwd (M : Mach) (w : List Nat) (f : List Nat → Nat) : Nat := S (List.range M.left.length) fun i => S (words 2 w.length) fun u => if M.out i 0 u = w then f [i, M.rst 0 u] else 0
def stepW (M : Mach) (l : Nat) (f : List Nat → Nat) (key : List Nat) : Nat := S (List.range M.left.length) fun s => S (List.range 2) fun k => if nx M.left s k = key.getD 0 0 ∧ M.tb s (key.getD 1 0) k = l then f [s, nx M.right (key.getD 1 0) k] else 0
theorem bwd_nil (M : Mach) (f : List Nat → Nat) : bwd M [] f = S (List.range M.left.length) fun i => f [i, 0] := by
  unfold bwd
  refine S_congr fun i _ => ?_
  rw [show words 2 ([] : List Nat).length = [[]] from rfl, S_one]; rfl
theorem bwd_step {M : Mach} (ok : M.Ok 2 2) (l : Nat) (w : List Nat) (f : List Nat → Nat) : bwd M w (stepW M l f) = bwd M (l :: w) f := by
  unfold bwd
  show _ = S (List.range M.left.length) fun i => S (words 2 (w.length + 1)) fun u => if M.out i 0 u = l :: w then f [i, M.rst 0 u] else 0
  have e1 : S (List.range M.left.length) (fun i => S (words 2 (w.length + 1)) fun u => if M.out i 0 u = l :: w then f [i, M.rst 0 u] else 0) =
      S (List.range M.left.length) (fun s => S (List.range 2) fun k => S (words 2 w.length) fun u => if nx M.left s k < M.left.length then (if M.tb s (M.rst 0 u) k = l ∧ M.out (nx M.left s k) 0 u = w then f [s, nx M.right (M.rst 0 u) k] else 0) else 0) := by
    refine S_congr fun s hs => ?_
    rw [S_words_succ]
    refine S_congr fun k hk => ?_
    refine S_congr fun u _ => ?_
    rw [if_pos (ok.left.nx (List.mem_range.mp hs) (List.mem_range.mp hk))]
    show (if M.tb s (M.rst 0 u) k :: M.out (nx M.left s k) 0 u = l :: w then f [s, nx M.right (M.rst 0 u) k] else 0) = _
    by_cases h : M.tb s (M.rst 0 u) k = l ∧ M.out (nx M.left s k) 0 u = w
    · rw [if_pos h, if_pos (by rw [h.1, h.2])]
    · rw [if_neg h, if_neg (fun z => h (by injection z with z1 z2; exact ⟨z1, z2⟩))]
  rw [e1]
  have e2 : ∀ s k, S (words 2 w.length) (fun u => if nx M.left s k < M.left.length then (if M.tb s (M.rst 0 u) k = l ∧ M.out (nx M.left s k) 0 u = w then f [s, nx M.right (M.rst 0 u) k] else 0) else 0) =
      S (words 2 w.length) (fun u => S (List.range M.left.length) fun i => if nx M.left s k = i then (if M.tb s (M.rst 0 u) k = l ∧ M.out i 0 u = w then f [s, nx M.right (M.rst 0 u) k] else 0) else 0) := fun s k => S_congr fun u _ => by
    rw [S_range_one M.left.length (nx M.left s k) (fun i => if M.tb s (M.rst 0 u) k = l ∧ M.out i 0 u = w then f [s, nx M.right (M.rst 0 u) k] else 0)]
  have e3 : S (List.range M.left.length) (fun s => S (List.range 2) fun k => S (words 2 w.length) fun u => if nx M.left s k < M.left.length then (if M.tb s (M.rst 0 u) k = l ∧ M.out (nx M.left s k) 0 u = w then f [s, nx M.right (M.rst 0 u) k] else 0) else 0) =
      S (List.range M.left.length) (fun s => S (List.range 2) fun k => S (List.range M.left.length) fun i => S (words 2 w.length) fun u => if nx M.left s k = i then (if M.tb s (M.rst 0 u) k = l ∧ M.out i 0 u = w then f [s, nx M.right (M.rst 0 u) k] else 0) else 0) :=
    S_congr fun s _ => S_congr fun k _ => by rw [e2, S_swap]
  rw [e3]
  have e4 : ∀ i, S (words 2 w.length) (fun u => if M.out i 0 u = w then stepW M l f [i, M.rst 0 u] else 0) =
      S (List.range M.left.length) (fun s => S (List.range 2) fun k => S (words 2 w.length) fun u => if nx M.left s k = i then (if M.tb s (M.rst 0 u) k = l ∧ M.out i 0 u = w then f [s, nx M.right (M.rst 0 u) k] else 0) else 0) := fun i => by
    have : S (words 2 w.length) (fun u => if M.out i 0 u = w then stepW M l f [i, M.rst 0 u] else 0) = S (words 2 w.length) (fun u => S (List.range M.left.length) fun s => S (List.range 2) fun k => if nx M.left s k = i then (if M.tb s (M.rst 0 u) k = l ∧ M.out i 0 u = w then f [s, nx M.right (M.rst 0 u) k] else 0) else 0) := by
      refine S_congr fun u _ => ?_
      show (if M.out i 0 u = w then S (List.range M.left.length) (fun s => S (List.range 2) fun k => if nx M.left s k = i ∧ M.tb s (M.rst 0 u) k = l then f [s, nx M.right (M.rst 0 u) k] else 0) else 0) = _
      rw [← S_if]
      refine S_congr fun s _ => ?_
      rw [← S_if]
      refine S_congr fun k _ => ?_
      by_cases h1 : M.out i 0 u = w
      · by_cases h2 : nx M.left s k = i
        · simp [h1, h2]
        · simp [h2]
      · simp [h1]
    rw [this, S_swap]
    refine S_congr fun s _ => ?_
    rw [S_swap]
  rw [S_congr fun i _ => e4 i, S_swap]
  refine S_congr fun s _ => ?_
  rw [S_swap]
/-- count_preimages -/
def pre (M : Mach) (w : List Nat) : Nat := S (words 2 w.length) fun u => if M.out 0 0 u = w then 1 else 0
theorem bwd_end {M : Mach} (ok : M.Ok 2 2) (w : List Nat) : bwd M w (fun key => if key.getD 0 0 = 0 then 1 else 0) = pre M w := by
  unfold bwd pre
  have : S (List.range M.left.length) (fun i => S (words 2 w.length) fun u => if M.out i 0 u = w then (if ([i, M.rst 0 u] : List Nat).getD 0 0 = 0 then 1 else 0) else 0) = S (List.range M.left.length) (fun i => if 0 = i then S (words 2 w.length) (fun u => if M.out i 0 u = w then 1 else 0) else 0) := S_congr fun i _ => by
    show S (words 2 w.length) (fun u => if M.out i 0 u = w then (if i = 0 then 1 else 0) else 0) = _
    by_cases h : i = 0
    · subst h; simp
    · rw [if_neg h, if_neg (fun z => h z.symm)]
      exact S_const0 fun u _ => by split <;> rfl
  rw [this, S_range_one, if_pos ok.left.pos]
/-- the law's first equation -/
theorem law_one {M : Mach} (ok : M.Ok 2 2) (p : List Nat → Bool) (n : Nat) : S ((words 2 n).filter p) (pre M) = cnt M p n := by
  rw [S_filter]
  have e1 : S (words 2 n) (fun w => if p w = true then pre M w else 0) = S (words 2 n) (fun w => S (words 2 n) fun u => if M.out 0 0 u = w then (if p w = true then 1 else 0) else 0) := S_congr fun w hw => by
    unfold pre
    rw [(words_mem.mp hw).1, ← S_if]
    refine S_congr fun u _ => ?_
    by_cases h : p w = true <;> by_cases h2 : M.out 0 0 u = w <;> simp [h, h2]
  rw [e1, S_swap]
  unfold cnt
  refine S_congr fun u hu => ?_
  obtain ⟨hl, h2⟩ := words_mem.mp hu
  rw [S_words_at 2 n (M.out 0 0 u) (fun w => if p w = true then 1 else 0), if_pos ⟨by rw [M.out_length, hl], ok.out ok.right.pos ok.left.pos h2⟩]
/-- the third -/
theorem law_three {M : Mach} (ok : M.Ok 2 2) (n : Nat) : S (words 2 n) (pre M) = 2 ^ n := by
  have h := law_one ok (fun _ => true) n
  rw [List.filter_eq_self.mpr (fun _ _ => rfl)] at h
  rw [h]
  unfold cnt
  simp only [if_true]
  exact S_words_const 2 n
/-- the fourth -/
theorem law_four {M : Mach} (ok : M.Ok 2 2) {p : List Nat → Bool} (h : ∀ u : List Nat, (∀ k ∈ u, k < 2) → p u.reverse = p u) (n : Nat) : cnt M.mir p n = cnt M p n := by
  unfold cnt
  rw [← S_words_rev]
  refine S_congr fun u hu => ?_
  have h2 := (words_mem.mp hu).2
  rw [Mach.mir_out ok ok.right.pos u ok.left.pos h2, h _ (ok.out ok.right.pos ok.left.pos h2)]
end K87

set_option maxHeartbeats 200000
/-! K87Scan: what the scanner of patterns computes. Core Lean alone. -/
set_option autoImplicit false
set_option linter.all false
namespace K87
structure Pt where
  nul : Bool
  fst : List Nat
  lst : List Nat
deriving DecidableEq
def mrg (a b : List Nat) : List Nat := srt (a ++ b)
def joinF (fo : List (List Nat)) (last first : List Nat) : List (List Nat) := last.foldl (fun fo p => fo.set p (mrg (fo.getD p []) first)) fo
def rowS (fw : List (List Nat) × Pt) (p : Pt) : List (List Nat) × Pt := (joinF fw.1 fw.2.lst p.fst, ⟨fw.2.nul && p.nul, if fw.2.nul = true then mrg fw.2.fst p.fst else fw.2.fst, if p.nul = true then mrg fw.2.lst p.lst else p.lst⟩)
def rowF (fo : List (List Nat)) (ps : List Pt) : List (List Nat) × Pt := ps.foldl rowS (fo, ⟨true, [], []⟩)
def chS (fw : List (List Nat) × Pt) (branch : List Pt) : List (List Nat) × Pt :=
  ((rowF fw.1 branch).1, ⟨fw.2.nul || (rowF fw.1 branch).2.nul, mrg fw.2.fst (rowF fw.1 branch).2.fst, mrg fw.2.lst (rowF fw.1 branch).2.lst⟩)
def choF (fo : List (List Nat)) : List (List Pt) → List (List Nat) × Pt
  | [] => (fo, ⟨true, [], []⟩)
  | b :: bs => bs.foldl chS (rowF fo b)
structure Sc where
  marks : List (Option Nat)
  follow : List (List Nat)
  fs : List (List (List Pt) × List Pt)
  bs : List (List Pt)
  ps : List Pt
  signs : Nat
  starred : Bool
deriving DecidableEq
def Sc.start : Sc := ⟨[none], [[]], [], [], [], 0, false⟩
def Sc.top (s : Sc) : List (List Pt) := s.bs ++ [s.ps]
def Sc.add (s : Sc) (p : Pt) : Sc := { s with ps := s.ps ++ [p], starred := true }
def Sc.place (s : Sc) (m : Option Nat) : Sc := Sc.add { s with marks := s.marks ++ [m], follow := s.follow ++ [[]] } ⟨false, [s.marks.length], [s.marks.length]⟩
def Sc.star (s : Sc) (c : Nat) (p : Pt) : Sc := { s with follow := if c ≠ 63 then joinF s.follow p.lst p.fst else s.follow, ps := s.ps.dropLast ++ [⟨p.nul || decide (c ≠ 43), p.fst, p.lst⟩] }
def Sc.close (s : Sc) (f : List (List Pt) × List Pt) (r : List (List (List Pt) × List Pt)) : Sc := Sc.add { s with follow := (choF s.follow s.top).1, fs := r, bs := f.1, ps := f.2 } (choF s.follow s.top).2
def takeF (a : List Nat) (s0 : Sc) (c : Nat) : Option Sc :=
  let s : Sc := { s0 with signs := s0.signs + 1 }
  if c ∈ [42, 43, 63] then
    if s.starred = true then s.ps.getLast?.map (s.star c) else none
  else if c = 40 then some { s with fs := (s.bs, s.ps) :: s.fs, bs := [], ps := [], starred := false }
  else if c = 41 then match s.fs with
    | [] => none
    | f :: r => some (s.close f r)
  else if c = 124 then some { s with bs := s.bs ++ [s.ps], ps := [], starred := false }
  else if c ≠ 46 ∧ c ∉ a then none
  else some (s.place (if c = 46 then none else some (a.idxOf c)))
def scanF (a : List Nat) : Sc → List Nat → Option Sc
  | s, [] => some s
  | s, c :: cs => if s.signs = 12 then none else (takeF a s c).bind fun s' => scanF a s' cs
def Sc.net (s : Sc) : Net := ⟨s.marks, (choF s.follow s.top).2.fst :: (choF s.follow s.top).1.drop 1, (if (choF s.follow s.top).2.nul = true then [0] else []) ++ (choF s.follow s.top).2.lst⟩

/-! ### what stays true -/
/-- a few places below n -/
structure Plc (n : Nat) (l : List Nat) : Prop where
  few : l.length ≤ 13
  lt : ∀ x ∈ l, x < n
structure PtOk (n : Nat) (p : Pt) : Prop where
  fst : Plc n p.fst
  lst : Plc n p.lst
structure FoOk (n : Nat) (fo : List (List Nat)) : Prop where
  len : fo.length = n
  few : n ≤ 13
  row : ∀ r ∈ fo, Plc n r
section
variable {n : Nat}
theorem Plc.nil : Plc n [] := ⟨Nat.zero_le _, by simp⟩
theorem Plc.mrg {a b : List Nat} (ha : Plc n a) (hb : Plc n b) : Plc n (mrg a b) :=
  ⟨srt_len _, fun x hx => by
    rcases List.mem_append.mp (srt_sub hx) with h | h
    · exact ha.lt x h
    · exact hb.lt x h⟩
theorem Plc.mono {m : Nat} {a : List Nat} (h : Plc n a) (hm : n ≤ m) : Plc m a := ⟨h.few, fun x hx => Nat.lt_of_lt_of_le (h.lt x hx) hm⟩
theorem PtOk.mono {m : Nat} {p : Pt} (h : PtOk n p) (hm : n ≤ m) : PtOk m p := ⟨h.fst.mono hm, h.lst.mono hm⟩
theorem mem_set {α : Type} {x y : α} : ∀ {l : List α} {i : Nat}, y ∈ l.set i x → y ∈ l ∨ y = x
  | [], _, h => by simp at h
  | z :: l, 0, h => by
    rcases List.mem_cons.mp h with h | h
    · exact .inr h
    · exact .inl (List.mem_cons_of_mem _ h)
  | z :: l, i + 1, h => by
    rcases List.mem_cons.mp h with h | h
    · exact .inl (by rw [h]; exact List.mem_cons_self)
    · rcases mem_set h with h | h
      · exact .inl (List.mem_cons_of_mem _ h)
      · exact .inr h
theorem FoOk.set {fo : List (List Nat)} (h : FoOk n fo) {p : Nat} {l : List Nat} (hl : Plc n l) : FoOk n (fo.set p l) :=
  ⟨by rw [List.length_set]; exact h.len, h.few, fun r hr => by
    rcases mem_set hr with h' | h'
    · exact h.row r h'
    · rw [h']; exact hl⟩
theorem FoOk.get {fo : List (List Nat)} (h : FoOk n fo) (p : Nat) : Plc n (fo.getD p []) := by
  by_cases hp : p < fo.length
  · exact h.row _ (getD_mem hp)
  · rw [List.getD_eq_getElem?_getD, List.getElem?_eq_none (by omega)]; exact Plc.nil
theorem FoOk.join {first : List Nat} (hf : Plc n first) : ∀ {last : List Nat} {fo : List (List Nat)}, FoOk n fo → FoOk n (joinF fo last first)
  | [], _, h => h
  | p :: last, fo, h => FoOk.join hf (last := last) (h.set ((h.get p).mrg hf))
theorem row_step {fo : List (List Nat)} {w p : Pt} (h : FoOk n fo) (hw : PtOk n w) (hp : PtOk n p) : FoOk n (rowS (fo, w) p).1 ∧ PtOk n (rowS (fo, w) p).2 := by
  refine ⟨h.join hp.fst, ?_, ?_⟩
  · show Plc n (if w.nul = true then mrg w.fst p.fst else w.fst)
    split
    · exact hw.fst.mrg hp.fst
    · exact hw.fst
  · show Plc n (if p.nul = true then mrg w.lst p.lst else p.lst)
    split
    · exact hw.lst.mrg hp.lst
    · exact hp.lst
theorem row_ok : ∀ {ps : List Pt} {fo : List (List Nat)} {w : Pt}, FoOk n fo → PtOk n w → (∀ p ∈ ps, PtOk n p) → FoOk n (ps.foldl rowS (fo, w)).1 ∧ PtOk n (ps.foldl rowS (fo, w)).2
  | [], _, _, h, hw, _ => ⟨h, hw⟩
  | p :: ps, fo, w, h, hw, hp => by
    obtain ⟨h1, h2⟩ := row_step h hw (hp p List.mem_cons_self)
    exact row_ok (ps := ps) h1 h2 fun q hq => hp q (List.mem_cons_of_mem _ hq)
theorem PtOk.zero : PtOk n ⟨true, [], []⟩ := ⟨Plc.nil, Plc.nil⟩
theorem rowF_ok {ps : List Pt} {fo : List (List Nat)} (h : FoOk n fo) (hp : ∀ p ∈ ps, PtOk n p) : FoOk n (rowF fo ps).1 ∧ PtOk n (rowF fo ps).2 := row_ok h PtOk.zero hp
theorem ch_step {fw : List (List Nat) × Pt} {b : List Pt} (h : FoOk n fw.1) (hw : PtOk n fw.2) (hb : ∀ p ∈ b, PtOk n p) : FoOk n (chS fw b).1 ∧ PtOk n (chS fw b).2 := by
  obtain ⟨h1, h2⟩ := rowF_ok h hb
  exact ⟨h1, hw.fst.mrg h2.fst, hw.lst.mrg h2.lst⟩
theorem ch_ok : ∀ {bs : List (List Pt)} {fw : List (List Nat) × Pt}, FoOk n fw.1 → PtOk n fw.2 → (∀ b ∈ bs, ∀ p ∈ b, PtOk n p) → FoOk n (bs.foldl chS fw).1 ∧ PtOk n (bs.foldl chS fw).2
  | [], _, h, hw, _ => ⟨h, hw⟩
  | b :: bs, fw, h, hw, hb => by
    obtain ⟨h1, h2⟩ := ch_step h hw (hb b List.mem_cons_self)
    exact ch_ok (bs := bs) h1 h2 fun q hq => hb q (List.mem_cons_of_mem _ hq)
theorem choF_ok {bs : List (List Pt)} {fo : List (List Nat)} (h : FoOk n fo) (hb : ∀ b ∈ bs, ∀ p ∈ b, PtOk n p) : FoOk n (choF fo bs).1 ∧ PtOk n (choF fo bs).2 := by
  cases bs with
  | nil => exact ⟨h, PtOk.zero⟩
  | cons b bs =>
    obtain ⟨h1, h2⟩ := rowF_ok h (hb b List.mem_cons_self)
    exact ch_ok (bs := bs) h1 h2 fun q hq => hb q (List.mem_cons_of_mem _ hq)
end
structure SOk (s : Sc) : Prop where
  fo : FoOk s.marks.length s.follow
  pos : 0 < s.marks.length
  few : s.marks.length ≤ s.signs + 1
  s12 : s.signs ≤ 12
  ps : ∀ p ∈ s.ps, PtOk s.marks.length p
  bs : ∀ b ∈ s.bs, b.length ≤ s.signs ∧ ∀ p ∈ b, PtOk s.marks.length p
  fs : ∀ f ∈ s.fs, f.1.length ≤ s.signs ∧ f.2.length ≤ s.signs ∧ (∀ b ∈ f.1, b.length ≤ s.signs ∧ ∀ p ∈ b, PtOk s.marks.length p) ∧ ∀ p ∈ f.2, PtOk s.marks.length p
  lps : s.ps.length ≤ s.signs
  lbs : s.bs.length ≤ s.signs
  lfs : s.fs.length ≤ s.signs
  star : s.starred = true → s.ps ≠ []
theorem SOk.start : SOk Sc.start := ⟨⟨rfl, by decide, fun r hr => by rw [List.mem_singleton.mp hr]; exact Plc.nil⟩, by decide, by decide, by decide, by simp [Sc.start], by simp [Sc.start], by simp [Sc.start], by decide, by decide, by decide, by simp [Sc.start]⟩
theorem SOk.top {s : Sc} (h : SOk s) : ∀ b ∈ s.top, ∀ p ∈ b, PtOk s.marks.length p := fun b hb p hp => by
  rcases List.mem_append.mp hb with hb | hb
  · exact (h.bs b hb).2 p hp
  · rw [List.mem_singleton.mp hb] at hp; exact h.ps p hp
/-- one sign more, nothing else -/
theorem SOk.up {s : Sc} (h : SOk s) (h12 : s.signs < 12) : SOk { s with signs := s.signs + 1 } :=
  ⟨h.fo, h.pos, Nat.le_succ_of_le h.few, h12, h.ps, fun b hb => ⟨Nat.le_succ_of_le (h.bs b hb).1, (h.bs b hb).2⟩, fun f hf => ⟨Nat.le_succ_of_le (h.fs f hf).1, Nat.le_succ_of_le (h.fs f hf).2.1, fun b hb => ⟨Nat.le_succ_of_le ((h.fs f hf).2.2.1 b hb).1, ((h.fs f hf).2.2.1 b hb).2⟩, (h.fs f hf).2.2.2⟩, Nat.le_succ_of_le h.lps, Nat.le_succ_of_le h.lbs, Nat.le_succ_of_le h.lfs, h.star⟩
theorem SOk.take {a : List Nat} {s0 s' : Sc} {c : Nat} (h0 : SOk s0) (h12 : s0.signs < 12) (e : takeF a s0 c = some s') : SOk s' ∧ s'.signs = s0.signs + 1 := by
  have h := h0.up h12
  unfold takeF at e
  simp only at e
  split at e
  · split at e
    · obtain ⟨p, hp, rfl⟩ := Option.map_eq_some_iff.mp e
      have mp : p ∈ s0.ps := List.mem_of_getLast? hp
      have op : PtOk s0.marks.length p := h0.ps p mp
      refine ⟨⟨?_, h.pos, h.few, h.s12, fun q hq => ?_, h.bs, h.fs, ?_, h.lbs, h.lfs, fun _ => by simp [Sc.star]⟩, rfl⟩
      · show FoOk s0.marks.length (if c ≠ 63 then joinF s0.follow p.lst p.fst else s0.follow)
        split
        · exact h0.fo.join op.fst
        · exact h0.fo
      · rcases List.mem_append.mp hq with hq | hq
        · exact h0.ps q (List.dropLast_subset _ hq)
        · rw [List.mem_singleton.mp hq]; exact ⟨op.fst, op.lst⟩
      · show (s0.ps.dropLast ++ [_]).length ≤ s0.signs + 1
        have := h0.lps
        rw [List.length_append, List.length_dropLast]
        simp only [List.length_singleton]
        omega
    · cases e
  · split at e
    · cases e
      refine ⟨⟨h.fo, h.pos, h.few, h.s12, by simp, by simp, fun f hf => ?_, Nat.zero_le _, Nat.zero_le _, ?_, by simp⟩, rfl⟩
      · rcases List.mem_cons.mp hf with rfl | hf
        · exact ⟨h.lbs, h.lps, h.bs, h.ps⟩
        · exact h.fs f hf
      · show s0.fs.length + 1 ≤ s0.signs + 1
        have := h0.lfs; omega
    · split at e
      · split at e
        · cases e
        · rename_i f r hfs
          cases e
          replace hfs : s0.fs = f :: r := hfs
          have mf : f ∈ s0.fs := by rw [hfs]; exact List.mem_cons_self
          obtain ⟨f1, f2, f3, f4⟩ := h0.fs f mf
          obtain ⟨c1, c2⟩ := choF_ok h0.fo h0.top
          refine ⟨⟨c1, h.pos, h.few, h.s12, fun q hq => ?_, fun b hb => ⟨Nat.le_succ_of_le (f3 b hb).1, (f3 b hb).2⟩, fun g hg => h.fs g (by show g ∈ s0.fs; rw [hfs]; exact List.mem_cons_of_mem _ hg), ?_, Nat.le_succ_of_le f1, ?_, fun _ => by simp [Sc.close, Sc.add]⟩, rfl⟩
          · rcases List.mem_append.mp hq with hq | hq
            · exact f4 q hq
            · rw [List.mem_singleton.mp hq]; exact c2
          · show (f.2 ++ [_]).length ≤ s0.signs + 1
            rw [List.length_append]; exact Nat.succ_le_succ f2
          · show r.length ≤ s0.signs + 1
            have := h0.lfs; rw [hfs, List.length_cons] at this; omega
      · split at e
        · cases e
          refine ⟨⟨h.fo, h.pos, h.few, h.s12, by simp, fun b hb => ?_, h.fs, Nat.zero_le _, ?_, h.lfs, by simp⟩, rfl⟩
          · rcases List.mem_append.mp hb with hb | hb
            · exact h.bs b hb
            · rw [List.mem_singleton.mp hb]; exact ⟨h.lps, h.ps⟩
          · show (s0.bs ++ [s0.ps]).length ≤ s0.signs + 1
            rw [List.length_append]; exact Nat.succ_le_succ h0.lbs
        · split at e
          · cases e
          · cases e
            have fw := h0.few
            have hm : s0.marks.length ≤ (s0.marks ++ [if c = 46 then none else some (a.idxOf c)]).length := by rw [List.length_append]; omega
            have hn : (s0.marks ++ [if c = 46 then none else some (a.idxOf c)]).length = s0.marks.length + 1 := by rw [List.length_append]; rfl
            refine ⟨⟨⟨?_, ?_, fun r hr => ?_⟩, ?_, ?_, h.s12, fun q hq => ?_, fun b hb => ⟨(h.bs b hb).1, fun p hp => ((h.bs b hb).2 p hp).mono hm⟩, fun f hf => ⟨(h.fs f hf).1, (h.fs f hf).2.1, fun b hb => ⟨((h.fs f hf).2.2.1 b hb).1, fun p hp => (((h.fs f hf).2.2.1 b hb).2 p hp).mono hm⟩, fun p hp => ((h.fs f hf).2.2.2 p hp).mono hm⟩, ?_, h.lbs, h.lfs, fun _ => by simp [Sc.place, Sc.add]⟩, rfl⟩
            · show (s0.follow ++ [[]]).length = (s0.marks ++ [_]).length
              rw [List.length_append, List.length_append, h0.fo.len]; rfl
            · show (s0.marks ++ [_]).length ≤ 13
              rw [hn]; omega
            · rcases List.mem_append.mp hr with hr | hr
              · exact (h0.fo.row r hr).mono hm
              · rw [List.mem_singleton.mp hr]; exact Plc.nil
            · show 0 < (s0.marks ++ [_]).length
              rw [hn]; omega
            · show (s0.marks ++ [_]).length ≤ s0.signs + 1 + 1
              rw [hn]; omega
            · rcases List.mem_append.mp hq with hq | hq
              · exact (h0.ps q hq).mono hm
              · rw [List.mem_singleton.mp hq]
                refine ⟨⟨by show 1 ≤ 13; decide, fun x hx => ?_⟩, ⟨by show 1 ≤ 13; decide, fun x hx => ?_⟩⟩ <;>
                · rw [List.mem_singleton.mp hx]
                  show s0.marks.length < (s0.marks ++ [_]).length
                  rw [hn]; omega
            · show (s0.ps ++ [_]).length ≤ s0.signs + 1
              rw [List.length_append]; exact Nat.succ_le_succ h0.lps
theorem SOk.scan {a : List Nat} : ∀ {cs : List Nat} {s s' : Sc}, SOk s → scanF a s cs = some s' → SOk s'
  | [], _, _, h, e => by cases e; exact h
  | c :: cs, s, s', h, e => by
    unfold scanF at e
    split at e
    · cases e
    · rename_i h12
      obtain ⟨s1, e1, e2⟩ := Option.bind_eq_some_iff.mp e
      exact SOk.scan (h.take (by have := h.s12; omega) e1).1 e2
theorem SOk.net {s : Sc} (h : SOk s) : s.net.Ok := by
  obtain ⟨c1, c2⟩ := choF_ok h.fo h.top
  have hl : s.net.follow.length = s.marks.length := by
    show ((choF s.follow s.top).1.drop 1).length + 1 = s.marks.length
    have := c1.len
    have := h.pos
    rw [List.length_drop]; omega
  refine ⟨by rw [hl]; exact h.fo.few, by rw [hl]; exact h.pos, by rw [hl]; rfl, fun row hr o ho => ?_, fun row hr => ?_, ?_⟩
  · rw [hl]
    rcases List.mem_cons.mp hr with rfl | hr
    · exact c2.fst.lt o ho
    · exact (c1.row row (List.mem_of_mem_drop hr)).lt o ho
  · rcases List.mem_cons.mp hr with rfl | hr
    · exact Nat.le_trans c2.fst.few (by decide)
    · exact Nat.le_trans (c1.row row (List.mem_of_mem_drop hr)).few (by decide)
  · show ((if (choF s.follow s.top).2.nul = true then [0] else []) ++ _).length ≤ 1000
    have := c2.lst.few
    rw [List.length_append]
    split <;> simp only [List.length_singleton, List.length_nil] <;> omega
end K87

set_option autoImplicit true
set_option Elab.async false
set_option linter.all false
set_option maxRecDepth 100000
set_option maxHeartbeats 4000000
/-! K87Rules: rules over the hand layer that it lacks: items() of a dict with tuple keys, its comprehension and display, a text backwards. -/
namespace K87
open PySem L2 PySem.Spec PyProof.Rows

/-! ### for k, v in d.items(), the keys tuples -/
/-- turn i gives a new pair: the i-th key's own tuple, and its value -/
def ItT (d : Addr) (o : Obj) (kvs : List (List Key × V)) : It where
  go i H := H d = some (.frz o (.dT kvs)) ∧ i < kvs.length
  yld i H x H' := ∃ (T q : Addr) (k : List Key) (v : V), kvs[i]? = some (k, v) ∧ H q = some (.tup (k.map kV)) ∧ x = .ref T ∧ H T = none ∧ H' = upd H T (.tup [.ref q, v])
  stop i H := H d = some (.frz o (.dT kvs)) ∧ kvs.length ≤ i
section
variable {X : Cx} {pins : List (Addr × Obj)} {σ : L2.St} {H : Hp} {s : Shared} {d : Addr} {o : Obj} {kvs : List (List Key × V)}
/-- what is known of the locked dict's object -/
theorem itemsT_known (I : Inv X pins σ H s) (h : H d = some (.frz o (.dT kvs))) :
    (d == sysModules) = false ∧ ∃ (es : Array DictEntry) (ep : Nat), s.heap.DictRaw d es ep ∧ o.data = .dict es ep ∧ es.size = kvs.length ∧
      ∀ (i : Nat) (k : List Key) (v : V), kvs[i]? = some (k, v) → ∃ (en : DictEntry) (q : Addr), es[i]? = some en ∧ en.key = .ref q ∧ H q = some (.tup (k.map kV)) ∧ RelV v en.val := by
  obtain ⟨hd, z, hs, xs, pr, o', es, ep, ho, hx, hdt, he, _⟩ := I.hok d _ h
  rw [hd] at ho
  cases ho
  refine ⟨hs, es, ep, ⟨o, hd, hx, hdt⟩, hdt, ?_, fun i k v e => ?_⟩
  · have l1 : es.size = xs.length := size_of_entries he
    have l2 : kvs.length = xs.length := Paired.length pr
    omega
  · obtain ⟨b, hb, e1, e2, e3⟩ := L2.paired_get pr e
    have q := entry_at he i
    rw [hb] at q
    exact ⟨_, b.2.1, q, rfl, e2, e3⟩
end
section
variable {P : Program} {w : World} {K : PySem.W.Frag} {d : Addr} {o : Obj} {es : Array DictEntry} {ep : Nat}
theorem turnT {kvs : List (List Key × V)} {elts : List Expr} {kk : Nat} {tpos : Pos} (it : Addr) (hod : o.data = .dict es ep) :
    Turn P w K (.Tuple elts kk tpos) (ItT d o kvs) [it] it (fun i h => ∃ a b, IsItemIter h it d i kvs.length ep a b) where
  mem := List.mem_singleton.mpr rfl
  obj := by
    intro i h ⟨a, c, e⟩ b hb
    rw [List.mem_singleton.mp hb]
    exact ⟨_, e, fun v z => nomatch z⟩
  keep := fun i h h' ⟨a, c, e⟩ k => ⟨a, c, k it (List.mem_singleton.mpr rfl) _ e⟩
  item := by
    rintro X rfl rfl rfl hc i pins s σ H E I hf ⟨a, c, he⟩ ⟨hd, hi⟩
    obtain ⟨hs, es', ep', raw, hdt, hsz, ent⟩ := itemsT_known I hd
    obtain ⟨rfl, rfl⟩ := dict_ep hod hdt
    obtain ⟨⟨k, v⟩, hkv⟩ : ∃ p, kvs[i]? = some p := ⟨kvs[i], List.getElem?_eq_getElem hi⟩
    obtain ⟨en, q, hen, hk1, hk2, rv⟩ := ent i k v hkv
    rw [← hsz] at he
    have hlt : it < s.heap.objs.size := Heap.lt_size he
    have hi' : i < es'.size := by omega
    have een : es'[i] = en := by rw [Array.getElem?_eq_getElem hi'] at hen; exact Option.some.inj hen
    refine wpAny_pyNext_items_item_raw he raw hi' fun h' ho hT hz hk => ?_
    refine ⟨_, rfl, wpAny_letOwnedTupleGo_items (s := { s with heap := h' }) ho fun h2 he2 sb => ?_⟩
    have hT2 := (sb.2 _ (Nat.ne_of_gt hlt)).trans hT
    have new : ObjOk X.prog X.w (upd H s.heap.objs.size (.tup [.ref q, v])) h2 s.heap.objs.size (.tup [.ref q, v]) := by
      refine ⟨by show 2 ≤ sizeLine; decide, [es'[i].key, es'[i].val], .cons ?_ (.cons ?_ .nil), ⟨_, hT2, rfl, _, rfl⟩⟩
      · rw [een]; exact hk1
      · rw [een]; exact rv
    have I1 : Inv X pins σ (upd H s.heap.objs.size (.tup [.ref q, v])) { s with heap := h2 } :=
      I.turnedNew (t' := s.toks) (ch := [it]) (fun b ob hb z => (sb.2 b fun y => hb (List.mem_singleton.mpr y)).trans (hk b ob (fun y => hb (List.mem_singleton.mpr y)) z)) hf (Nat.le_refl _) new
    refine ⟨.ref s.heap.objs.size, _, I1, rfl, ⟨_, q, k, v, hkv, hk2, rfl, I.hok.fresh (Nat.le_refl _), rfl⟩, ⟨es'[i].key, es'[i].val, ?_⟩, fun b hb => ?_⟩
    · rw [← hsz]; exact he2
    · rw [List.mem_singleton.mp hb, upd_ne (Nat.ne_of_lt hlt)]
      exact (hf it (List.mem_singleton.mpr rfl)).1
  done := by
    rintro X rfl rfl rfl hc i pins s σ H E I hf ⟨a, c, he⟩ ⟨hd, hi⟩
    obtain ⟨f0, f1, f2, f3, f4, f5⟩ := hf it (List.mem_singleton.mpr rfl)
    obtain ⟨hs, es', ep', raw, hdt, hsz, ent⟩ := itemsT_known I hd
    obtain ⟨rfl, rfl⟩ := dict_ep hod hdt
    rw [← hsz] at he
    exact wpAny_pyNext_items_end_raw (I.ok.hd hc) he raw (by omega) fun h' eb => ⟨rfl, I.turned (t' := s.toks) (fun b ob hb e => eb b ob hb e) f0 f1 f3 f4 f5⟩
  self := by
    rintro A i s Q E ⟨a, c, e⟩ h
    exact PySem.W.kcp_self e h
end
def iItemsT (td : TE) : TI := fun σ H R => td σ H fun x H1 => ∃ d o kvs, x = .ref d ∧ H1 d = some (.frz o (.dT kvs)) ∧ R (ItT d o kvs) H1
theorem pi_itemsT {X : Cx} {e : Expr} {td : TE} {apos cpos tpos : Pos} {elts : List Expr} {kk : Nat} (he : PE X e td) (hbase : attributeBase e "items" X.env (eval e X.env) = eval e X.env := by rfl) (hline : (apos.endLine == cpos.line) = true := by rfl) :
    PI X (.Tuple elts kk tpos) (.Call (.Attribute e "items" apos) [] [] cpos) (iItemsT td) := by
  refine ⟨fun pins s σ H R I h => ?_⟩
  refine wpAny_Call_method (T := "dict") (id := "dict.items") hbase rfl hline PySem.F.plainAttrs_dict PySem.F.slot_dict_items PySem.F.type_dict_items (thn (he.run pins s σ H _ I h) fun u s1 ⟨x, H1, I1, rx, d, o, kvs, ex, hd, q⟩ => ?_)
  subst ex
  cases (show u = Value.ref d from rx)
  obtain ⟨hs, es, ep, raw, hdt, hsz, ent⟩ := itemsT_known I1 hd
  refine ⟨raw.typeIs, fun b eb => ?_, ?_⟩
  · cases eb
    obtain ⟨ob, h1, h2, h3⟩ := raw
    exact ⟨ob, h1, h2.2.1⟩
  have I2 : Inv X pins σ H1 { s1 with heap := s1.heap.push { cls := .type "dict_items", data := .fields #[.ref d] } } := I1.kept (t' := s1.toks) fun b ob q => Heap.get?_push_of_some _ q
  have fin : wpAny (model X.prog X.w) X.A (pyIter (.ref s1.heap.objs.size)) (PIE X pins σ (.Tuple elts kk tpos) R) X.xe { s1 with heap := s1.heap.push { cls := .type "dict_items", data := .fields #[.ref d] } } := by
    refine wpAny_pyIter_items_raw (d := d) (es := es) (ep := ep) ⟨_, Heap.get?_push_size _ rfl, rfl, rfl⟩ (raw.at fun _ z => Heap.get?_push_of_some _ z) (pi_one (tk := s1.toks) I2 _ (turnT _ hdt) ⟨.none, .none, ?_⟩ q)
    rw [← hsz]
    exact Heap.get?_push_size _ rfl
  show wpAny _ _ (callWith cpos (.builtin "dict.items") [.ref d] [] []) _ X.xe s1
  exact method_meetsIn PySem.F.slot_dict_items PySem.F.entry_dict_items rfl (PySem.evalArgs_none ⟨rfl, raw.typeIs, PySem.F.args_dict_items_1 _, _, meets_dict_items_raw d hs, ⟨es, ep, raw⟩, fin⟩)
/-- as a walk -/
theorem walk_itemsT {d : Addr} {o : Obj} {kvs : List (List Key × V)} : Walk (ItT d o kvs) kvs.length (fun H => H d = some (.frz o (.dT kvs)))
    (fun i H x H' => ∃ (T q : Addr) (k : List Key) (v : V), kvs[i]? = some (k, v) ∧ H q = some (.tup (k.map kV)) ∧ x = .ref T ∧ H T = none ∧ H' = upd H T (.tup [.ref q, v])) :=
  ⟨fun _ _ hi q => ⟨q, hi⟩, fun _ q => ⟨q, Nat.le_refl _⟩, fun _ _ _ _ _ _ y => y⟩

/-! ### a text backwards -/
def tRevS (te : TE) : TE := fun σ H Q => te σ H fun x H1 => ∃ z : Str, x = .str z ∧ z.length ≤ sizeLine ∧ Q (.str ⟨z.cps.toList.reverse.toArray⟩) H1
end K87

set_option autoImplicit true
set_option Elab.async false
set_option linter.all false
set_option maxRecDepth 100000
set_option maxHeartbeats 4000000
/-! K87Dict: dicts whose keys are nested tuples or bools (for one and the same def), a dict's display and comprehension with tuple keys, a text backwards. -/
namespace K87
open PySem L2 PySem.Spec PyProof.Rows

/-! ### a text backwards -/
theorem pe_revS {X : Cx} {e : Expr} {te : TE} {k : Nat} {p1 p2 p3 pos : Pos} (he : PE X e te) : PE X (.Subscript e (.Slice none none (some (.UnaryOp .USub (.Constant (.int 1) k p1) p2)) p3) pos) (tRevS te) := by
  refine ⟨fun pins s σ H Q I h => Subscript_ (thn (he.run pins s σ H _ I h) fun v s1 ⟨x, H1, I1, r1, q1⟩ => ?_)⟩
  obtain ⟨z, rfl, hz, q⟩ := q1
  obtain ⟨t, rfl⟩ := r1
  refine wpAny_Slice (thn (po_none.run pins s1 σ H1 (fun o H2 => o = none ∧ H2 = H1) I1 ⟨rfl, rfl⟩) fun vl s2 ⟨l, H2, I2, pl, el, e2⟩ => ?_)
  subst el e2
  refine thn (po_none.run pins s2 σ H2 (fun o H3 => o = none ∧ H3 = H2) I2 ⟨rfl, rfl⟩) fun vu s3 ⟨u, H3, I3, pu, eu, e3⟩ => ?_
  subst eu e3
  have hst : PO X (some (.UnaryOp .USub (.Constant (.int 1) k p1) p2)) (tPart (tUn (rU fun i => .int (-i)) (tC (.int 1)))) := po_some (pe_un un_neg pe_int)
  refine thn (hst.run pins s3 σ H3 (fun o H4 => o = some (-1) ∧ H4 = H3) I3 ⟨1, rfl, -1, rfl, rfl, rfl⟩) fun vs s4 ⟨o, H4, I4, ps, eo, e4⟩ => ?_
  subst eo e4
  have I5 : Inv X pins σ H4 { s4 with heap := s4.heap.push { cls := .type "slice", data := .fields #[vl, vu, vs] } } := I4.kept (t' := s4.toks) fun b ob q => Heap.get?_push_of_some _ q
  obtain ⟨a1, rfl, b1⟩ := IsPart.raw pl
  obtain ⟨a2, rfl, b2⟩ := IsPart.raw pu
  obtain ⟨a3, rfl, b3⟩ := IsPart.raw ps
  have e1 : a1 = none := by cases a1 with | none => rfl | some p => cases b1
  have e2 : a2 = none := by cases a2 with | none => rfl | some p => cases b2
  subst e1 e2
  obtain ⟨⟨i3, t3⟩, rfl, ei3⟩ : ∃ p, a3 = some p ∧ p.1 = -1 := by
    cases a3 with
    | none => cases b3
    | some p => exact ⟨p, rfl, Option.some.inj b3⟩
  simp only at ei3
  subst ei3
  show wpAny (model X.prog X.w) X.A (subscriptTail e (.Slice none none (some (.UnaryOp .USub (.Constant (.int 1) k p1) p2)) p3) (.str z t) (.ref s4.heap.objs.size)) (EP X pins σ Q) X.xe _
  refine tail_any (ops := [.str z t, .ref s4.heap.objs.size]) (typeIs_str _ z t) (PySem.F.slot_str_getitem.lookup) ?_ (by with_unfolding_all rfl)
  refine wpAny_getItem_str_slice (l := none) (u := none) (st := some (-1, t3)) ⟨_, Heap.get?_push_size _ rfl, rfl, rfl⟩ rfl ?_
  have hp : ((List.range z.length).map fun k => z.length - 1 - k).filterMap (z.cps[·]?) = z.cps.toList.reverse := by
    have hl : z.cps.toList.length = z.length := by simp; rfl
    rw [PyProof.Rows.filterMap_get z.cps _ (fun k hk => ?_)]
    · refine List.ext_getElem? fun i => ?_
      rw [List.map_map, List.getElem?_map]
      by_cases hi : i < z.length
      · rw [List.getElem?_range hi, List.getElem?_reverse (by omega), hl]
        have : z.length - 1 - i < z.cps.size := by
          have : z.cps.size = z.length := rfl
          omega
        simp [this]
      · rw [List.getElem?_eq_none (by simp; omega), List.getElem?_eq_none (by simp only [List.length_reverse]; omega)]
        rfl
    · obtain ⟨j, hj, rfl⟩ := List.mem_map.mp hk
      have := List.mem_range.mp hj
      show z.length - 1 - j < z.cps.size
      have : z.cps.size = z.length := rfl
      omega
  have hsz : (⟨z.cps.toList.reverse.toArray⟩ : Str).length ≤ sizeLine := by
    show (z.cps.toList.reverse.toArray).size ≤ sizeLine
    simp
    exact hz
  show Made.post (if ((-1 : Int) == 1 && (Builtin.Str.strSliceIndices none none (-1) z.length).length == z.length) = true then Made.val (.str z t)
    else Made.str ⟨((Builtin.Str.strSliceIndices none none (-1) z.length).filterMap (z.cps[·]?)).toArray⟩) (EP X pins σ Q) _
  rw [show ((-1 : Int) == 1) = false from by decide, Bool.false_and, if_neg Bool.false_ne_true, picked_rev, hp]
  exact ⟨hsz, .str _, _, I5.tok _, ⟨_, rfl⟩, q⟩

/-! ### a dict of any kind of keys, for a def that is called with several -/
def tGNew {κ : Type} (dict : Hp → Addr → List (κ × V) → Prop) : TE := fun _ H Q => ∀ p o, H p = none → Mut (some o) → dict (upd H p o) p [] → Q (.ref p) (upd H p o)
def tGNin {κ : Type} [DecidableEq κ] (dict : Hp → Addr → List (κ × V) → Prop) (key : Hp → V → κ → Prop) (ty td : TE) : TE := fun σ H Q => ty σ H fun y H1 => td σ H1 fun x H2 =>
  ∃ a kvs k, x = .ref a ∧ dict H2 a kvs ∧ key H2 y k ∧ Q (.bl (!(valV kvs k).isSome)) H2
def tGGet {κ : Type} [DecidableEq κ] (dict : Hp → Addr → List (κ × V) → Prop) (key : Hp → V → κ → Prop) (td ty : TE) : TE := fun σ H Q => td σ H fun x H1 => ty σ H1 fun y H2 =>
  ∃ a kvs k v, x = .ref a ∧ dict H2 a kvs ∧ key H2 y k ∧ valV kvs k = some v ∧ Q v H2
def sGPut {κ : Type} [DecidableEq κ] (dict : Hp → Addr → List (κ × V) → Prop) (key : Hp → V → κ → Prop) (td ty tv : TE) : TS := fun D σ H => tv σ H fun v H1 => td σ H1 fun x H2 => ty σ H2 fun y H3 =>
  ∃ a kvs k, x = .ref a ∧ dict H3 a kvs ∧ key H3 y k ∧ kvs.length < sizeLine ∧ ∀ o, Mut (some o) → dict (upd H3 a o) a (putK kvs k v) → D.nx σ (upd H3 a o)
def rGLen {κ : Type} (dict : Hp → Addr → List (κ × V) → Prop) : List V → Hp → VK → Prop := fun xs H Q => ∃ a kvs, xs = [.ref a] ∧ dict H a kvs ∧ Q (.int ((kvs.length : Nat) : Int)) H
structure GK (P : Program) (w : World) (κ : Type) [DecidableEq κ] where
  dict : Hp → Addr → List (κ × V) → Prop
  key : Hp → V → κ → Prop
  some_ : ∀ {H a kvs}, dict H a kvs → ∃ o, H a = some o ∧ Mut (some o)
  stay : ∀ {H H' : Hp} {a kvs}, dict H a kvs → H' a = H a → (∀ b xs, H b = some (.tup xs) → H' b = some (.tup xs)) → dict H' a kvs
  kstay : ∀ {H H' : Hp} {v k}, key H v k → (∀ b xs, H b = some (.tup xs) → H' b = some (.tup xs)) → key H' v k
  r_new : ∀ (X : Cx), X.prog = P → X.w = w → ∀ pos, PE X (.Dict [] [] pos) (tGNew dict)
  r_nin : ∀ (X : Cx), X.prog = P → X.w = w → X.A.units + 9 < cLine → ∀ {i o : Expr} {ty td : TE}, PE X i ty → PE X o td → PC X .NotIn i o (tGNin dict key ty td)
  r_get : ∀ (X : Cx), X.prog = P → X.w = w → X.A.units + 9 < cLine → ∀ {i o : Expr} {ty td : TE} {pos : Pos}, PE X o td → PE X i ty → NoSl i → PE X (.Subscript o i pos) (tGGet dict key td ty)
  r_put : ∀ (X : Cx), X.prog = P → X.w = w → X.A.units + 9 < cLine → ∀ {i o value : Expr} {ty td tv : TE} {pos pos' : Pos}, PE X o td → PE X i ty → PE X value tv →
    swapsWith value (some (.Subscript o i pos')) pos.line X.env = pure false → PS X (.Assign [.Subscript o i pos'] value pos) (sGPut dict key td ty tv)
  r_len : ∀ (X : Cx), X.prog = P → X.w = w → CallR X (.builtin "len") (rGLen dict)

/-! ### keys that are nested tuples -/
mutual
inductive KeyN (H : Hp) : V → NestedKey → Prop
  | int (i : Int) : KeyN H (.int i) (.num i)
  | str (x : Str) : KeyN H (.str x) (.text x)
  | tup {a vs ks} : H a = some (.tup vs) → KeyNs H vs ks → KeyN H (.ref a) (.tup ks)
inductive KeyNs (H : Hp) : List V → List NestedKey → Prop
  | nil : KeyNs H [] []
  | cons {v k vs ks} : KeyN H v k → KeyNs H vs ks → KeyNs H (v :: vs) (k :: ks)
end
mutual
theorem KeyN.stay {H H' : Hp} (h : ∀ b xs, H b = some (.tup xs) → H' b = some (.tup xs)) : ∀ {v k}, KeyN H v k → KeyN H' v k
  | _, _, .int i => .int i
  | _, _, .str x => .str x
  | _, _, .tup e r => .tup (h _ _ e) (KeyNs.stay h r)
theorem KeyNs.stay {H H' : Hp} (h : ∀ b xs, H b = some (.tup xs) → H' b = some (.tup xs)) : ∀ {vs ks}, KeyNs H vs ks → KeyNs H' vs ks
  | _, _, .nil => .nil
  | _, _, .cons a r => .cons (KeyN.stay h a) (KeyNs.stay h r)
end
mutual
theorem KeyN.nested {P : Program} {w : World} {H : Hp} {h : Heap} (ok : HOk P w H h) : ∀ {v k u}, KeyN H v k → RelV v u → NestedIs h k u
  | _, _, _, .int i, r => by obtain ⟨t, rfl⟩ := r; exact .int i t
  | _, _, _, .str x, r => by obtain ⟨t, rfl⟩ := r; exact .text x t
  | _, _, u, .tup (a := a) (vs := vs) e q, r => by
    obtain rfl : u = Value.ref a := r
    obtain ⟨_, its, rv, o, h1, h2, n, h3⟩ := (show ObjOk P w H h a (.tup vs) from ok a _ e)
    exact .tup h1 h2 h3 (KeyNs.nested ok q rv)
theorem KeyNs.nested {P : Program} {w : World} {H : Hp} {h : Heap} (ok : HOk P w H h) : ∀ {vs ks us}, KeyNs H vs ks → Vals vs us → NestedAll h ks us
  | _, _, _, .nil, .nil => .nil
  | _, _, _, .cons a r, .cons r1 r2 => .cons (KeyN.nested ok a r1) (KeyNs.nested ok r r2)
end
def NRel : NestedKey × Addr × V → NestedKey × Addr × Value → Prop := fun p q => p.1 = q.1 ∧ p.2.1 = q.2.1 ∧ RelV p.2.2 q.2.2
/-- the object at a: a dict with these entries -/
def NObj (P : Program) (w : World) (a : Addr) (xs : List (NestedKey × Addr × V)) : HO := .ext fun h => xs.length ≤ sizeLine ∧ (a == sysModules) = false ∧ ∃ ys, Paired NRel xs ys ∧
  ∃ o es ep, h.get? a = some o ∧ o.ExactDict ∧ o.data = .dict es ep ∧ es.toList = ys.map (entryOfKey (nestedKind P w)) ∧ (ys.map (·.1)).Nodup
def nDict (P : Program) (w : World) (H : Hp) (a : Addr) (kvs : List (NestedKey × V)) : Prop :=
  ∃ xs : List (NestedKey × Addr × V), xs.map (fun x => (x.1, x.2.2)) = kvs ∧ H a = some (NObj P w a xs) ∧ ∀ x ∈ xs, KeyN H (.ref x.2.1) x.1 ∧ x.1.depth ≤ 8
def nKey (H : Hp) (v : V) (k : NestedKey) : Prop := KeyN H v k ∧ k.depth ≤ 8 ∧ ∃ b, v = .ref b
def storeX (xs : List (NestedKey × Addr × V)) (k : NestedKey) (b : Addr) (v : V) : List (NestedKey × Addr × V) :=
  if xs.any (fun x => decide (x.1 = k)) = true then xs.map (fun x => if x.1 = k then (x.1, x.2.1, v) else x) else xs ++ [(k, b, v)]
section
variable {P : Program} {w : World} {H : Hp} {h : Heap} {a : Addr}
theorem nDict_get (ok : HOk P w H h) {kvs : List (NestedKey × V)} (e : nDict P w H a kvs) :
    ∃ xs ys, xs.map (fun x => (x.1, x.2.2)) = kvs ∧ H a = some (NObj P w a xs) ∧ (∀ x ∈ xs, KeyN H (.ref x.2.1) x.1 ∧ x.1.depth ≤ 8) ∧ xs.length ≤ sizeLine ∧ (a == sysModules) = false ∧ Paired NRel xs ys ∧ h.DictOfH (nestedKind P w) a ys := by
  obtain ⟨xs, e1, e2, e3⟩ := e
  obtain ⟨⟨z, hd, ys, pr, o, es, ep, h1, h2, h3, h4, h5⟩, _⟩ := (show ObjOk P w H h a (NObj P w a xs) from ok a _ e2)
  refine ⟨xs, ys, e1, e2, e3, z, hd, pr, o, es, ep, h1, h2, h3, h4, ?_, h5⟩
  have all : ∀ {l : List (NestedKey × Addr × V)} {m : List (NestedKey × Addr × Value)}, Paired NRel l m → (∀ x ∈ l, KeyN H (.ref x.2.1) x.1 ∧ x.1.depth ≤ 8) → ∀ y ∈ m, (nestedKind P w).is h y.1 y.2.1 := by
    intro l m q
    induction q with
    | nil => intro _ x hx; exact nomatch hx
    | @cons p q ps qs hq t ih =>
      intro hl x hx
      rcases List.mem_cons.mp hx with rfl | hx
      · have := hl p List.mem_cons_self
        obtain ⟨q1, q2, _⟩ := hq
        refine ⟨?_, by rw [← q1]; exact this.2⟩
        rw [← q1, ← q2]
        exact this.1.nested ok rfl
      · exact ih (fun x hx => hl x (List.mem_cons_of_mem _ hx)) x hx
  exact all pr e3
theorem NRel.val {xs : List (NestedKey × Addr × V)} {ys : List (NestedKey × Addr × Value)} (r : Paired NRel xs ys) (k : NestedKey) : RelO (valV (xs.map (fun x => (x.1, x.2.2))) k) ((atKey ys k).map (·.2)) := by
  induction r with
  | nil => exact True.intro
  | @cons p q ps qs h t ih =>
    obtain ⟨h1, _, h2⟩ := h
    rw [List.map_cons]
    by_cases e : p.1 = k
    · have e' : q.1 = k := h1.symm.trans e
      have b : atKey (q :: qs) k = some q.2 := by simp [atKey, List.find?_cons, e']
      have c : valV ((p.1, p.2.2) :: ps.map (fun x => (x.1, x.2.2))) k = some p.2.2 := by simp [valV, List.find?_cons, e]
      rw [b, c]; exact h2
    · have e' : ¬ q.1 = k := fun z => e (h1.trans z)
      have b : atKey (q :: qs) k = atKey qs k := by simp [atKey, List.find?_cons, e']
      have c : valV ((p.1, p.2.2) :: ps.map (fun x => (x.1, x.2.2))) k = valV (ps.map (fun x => (x.1, x.2.2))) k := by simp [valV, List.find?_cons, e]
      rw [b, c]; exact ih
theorem NRel.any {xs : List (NestedKey × Addr × V)} {ys : List (NestedKey × Addr × Value)} (r : Paired NRel xs ys) (k : NestedKey) : (xs.any fun x => decide (x.1 = k)) = (atKey ys k).isSome := by
  induction r with
  | nil => rfl
  | @cons p q ps qs h t ih =>
    rw [List.any_cons]
    by_cases e : p.1 = k
    · have e' : q.1 = k := h.1.symm.trans e
      simp [atKey, List.find?_cons, e', e]
    · have e' : ¬ q.1 = k := fun z => e (h.1.trans z)
      have b : atKey (q :: qs) k = atKey qs k := by simp [atKey, List.find?_cons, e']
      rw [b, ← ih, decide_eq_false e, Bool.false_or]
theorem NRel.repl {xs : List (NestedKey × Addr × V)} {ys : List (NestedKey × Addr × Value)} (r : Paired NRel xs ys) (k : NestedKey) {y : V} {u : Value} (ry : RelV y u) :
    Paired NRel (xs.map fun x => if x.1 = k then (x.1, x.2.1, y) else x) (ys.map (putAt k u)) := by
  induction r with
  | nil => exact .nil
  | @cons p q ps qs h t ih =>
    refine .cons ?_ ih
    obtain ⟨h1, h2, h3⟩ := h
    unfold putAt
    dsimp only
    by_cases e : p.1 = k
    · rw [if_pos e, if_pos (h1.symm.trans e)]; exact ⟨h1, h2, ry⟩
    · rw [if_neg e, if_neg (fun z => e (h1.trans z))]; exact ⟨h1, h2, h3⟩
theorem NRel.put {xs : List (NestedKey × Addr × V)} {ys : List (NestedKey × Addr × Value)} (r : Paired NRel xs ys) (k : NestedKey) (b : Addr) {y : V} {u : Value} (ry : RelV y u) : Paired NRel (storeX xs k b y) (storedH ys k b u) := by
  unfold storeX storedH
  rw [NRel.any r k]
  by_cases q : (atKey ys k).isSome = true
  · rw [if_pos q, if_pos q]; exact NRel.repl r k ry
  · rw [if_neg q, if_neg q]; exact Paired.snoc r ⟨rfl, rfl, ry⟩
theorem storeX_kvs (xs : List (NestedKey × Addr × V)) (k : NestedKey) (b : Addr) (v : V) : (storeX xs k b v).map (fun x => (x.1, x.2.2)) = putK (xs.map (fun x => (x.1, x.2.2))) k v := by
  have e : (xs.map (fun x => (x.1, x.2.2))).any (fun kv => decide (kv.1 = k)) = xs.any (fun x => decide (x.1 = k)) := by rw [List.any_map]; rfl
  unfold storeX putK
  rw [e]
  by_cases q : xs.any (fun x => decide (x.1 = k)) = true
  · rw [if_pos q, if_pos q, List.map_map, List.map_map]
    refine List.map_congr_left fun x _ => ?_
    by_cases c : x.1 = k
    · simp [c]
    · simp [c]
  · rw [if_neg q, if_neg q, List.map_append]; rfl
theorem storeX_len (xs : List (NestedKey × Addr × V)) (k : NestedKey) (b : Addr) (v : V) : (storeX xs k b v).length ≤ xs.length + 1 := by
  unfold storeX
  split
  · rw [List.length_map]; omega
  · rw [List.length_append]; exact Nat.le_refl _
theorem storeX_mem {xs : List (NestedKey × Addr × V)} {k : NestedKey} {b : Addr} {v : V} {x : NestedKey × Addr × V} (h : x ∈ storeX xs k b v) : (∃ y ∈ xs, y.1 = x.1 ∧ y.2.1 = x.2.1) ∨ (x.1 = k ∧ x.2.1 = b) := by
  unfold storeX at h
  split at h
  · obtain ⟨y, hy, e⟩ := List.mem_map.mp h
    by_cases c : y.1 = k
    · rw [if_pos c] at e; subst e; exact .inl ⟨y, hy, rfl, rfl⟩
    · rw [if_neg c] at e; subst e; exact .inl ⟨y, hy, rfl, rfl⟩
  · rcases List.mem_append.mp h with h | h
    · exact .inl ⟨x, h, rfl, rfl⟩
    · have : x = (k, b, v) := by simpa using h
      subst this; exact .inr ⟨rfl, rfl⟩
end

/-! ### the two kinds -/
section
variable {P : Program} {w : World}
theorem nObj_stay {a : Addr} {xs : List (NestedKey × Addr × V)} {h1 h2 : Heap} (x : ∃ ys, Paired NRel xs ys ∧
    ∃ o es ep, h1.get? a = some o ∧ o.ExactDict ∧ o.data = .dict es ep ∧ es.toList = ys.map (entryOfKey (nestedKind P w)) ∧ (ys.map (·.1)).Nodup) (k : ∀ o, h1.get? a = some o → h2.get? a = some o) : ∃ ys, Paired NRel xs ys ∧
    ∃ o es ep, h2.get? a = some o ∧ o.ExactDict ∧ o.data = .dict es ep ∧ es.toList = ys.map (entryOfKey (nestedKind P w)) ∧ (ys.map (·.1)).Nodup := by
  obtain ⟨ys, pr, o, es, ep, q, r⟩ := x
  exact ⟨ys, pr, o, es, ep, k o q, r⟩
theorem nObj_ok {a : Addr} {xs : List (NestedKey × Addr × V)} {ys : List (NestedKey × Addr × Value)} {H : Hp} {h : Heap} (z : xs.length ≤ sizeLine) (hd : (a == sysModules) = false) (pr : Paired NRel xs ys) (dd : h.DictOfH (nestedKind P w) a ys) : ObjOk P w H h a (NObj P w a xs) := by
  obtain ⟨o, es, ep, h1, h2, h3, h4, _, h5⟩ := dd
  exact ⟨⟨z, hd, ys, pr, o, es, ep, h1, h2, h3, h4, h5⟩, ⟨o, h1⟩, fun g1 g2 p k => ⟨p.1, p.2.1, nObj_stay p.2.2 k⟩⟩
theorem depth_room {A : Around} (hu : A.units + 9 < cLine) : (nestedKind P w).room A.in1 := by
  show A.units + 1 + 8 < cLine
  omega
theorem nDict_typeIs {H : Hp} {s : Shared} {a : Addr} {ys : List (NestedKey × Addr × Value)} (dd : s.heap.DictOfH (nestedKind P w) a ys) : (∀ b, Value.ref a = .ref b → ∃ ob, s.heap.get? b = some ob ∧ ob.dict = none) := by
  intro b e
  cases e
  obtain ⟨o, es, ep, h1, h2, _⟩ := dd
  exact ⟨o, h1, h2.2.1⟩
def gkNested (P : Program) (w : World) : GK P w NestedKey where
  dict := nDict P w
  key := nKey
  some_ := fun ⟨xs, _, e, _⟩ => ⟨_, e, True.intro⟩
  stay := fun ⟨xs, e1, e2, e3⟩ h ht => ⟨xs, e1, h.trans e2, fun x hx => ⟨(e3 x hx).1.stay ht, (e3 x hx).2⟩⟩
  kstay := fun ⟨a, b, c⟩ ht => ⟨a.stay ht, b, c⟩
  r_new := by
    rintro X rfl rfl pos
    refine ⟨fun pins s σ H Q I h => wpAny_Dict_empty ?_⟩
    have hd : (s.heap.objs.size == sysModules) = false := beq_eq_false_iff_ne.mpr (Ne.symm (Nat.ne_of_lt I.big))
    have dd : (s.heap.push { cls := .type "dict", data := .dict #[] }).DictOfH (nestedKind X.prog X.w) s.heap.objs.size [] := Heap.DictOfH.new _
    refine ⟨.ref s.heap.objs.size, _, I.laid (a := s.heap.objs.size) (o := NObj X.prog X.w s.heap.objs.size []) (t' := s.toks) (fun _ _ q => Heap.get?_push_of_some _ q) (Nat.le_refl _) (nObj_ok (Nat.zero_le _) hd .nil dd), rfl, h _ _ (I.hok.fresh (Nat.le_refl _)) True.intro ⟨[], rfl, upd_same, fun x hx => nomatch hx⟩⟩
  r_nin := by
    rintro X rfl rfl hu i o ty td hi ho
    refine ⟨fun pins s σ H Q I h => thn (hi.run pins s σ H _ I h) fun iv s1 ⟨y, H1, I1, ry, q1⟩ => thn (ho.run pins s1 σ H1 _ I1 q1) fun u s2 ⟨x, H2, I2, rx, a, kvs, k, ex, hd, hk, q2⟩ => ?_⟩
    subst ex
    obtain rfl : u = Value.ref a := rx
    obtain ⟨kn, dp, b, rfl⟩ := hk
    obtain rfl : iv = Value.ref b := ry
    obtain ⟨xs, ys, e1, e2, e3, z, hsm, pr, dd⟩ := nDict_get I2.hok hd
    refine wpAny_notIn_heap (depth_room hu) ⟨kn.nested I2.hok rfl, dp⟩ hsm dd ?_
    have q := (NRel.val pr k).isSome_eq
    rw [Option.isSome_map, e1] at q
    rw [← q]
    exact ⟨.bl _, H2, I2.tok _, rfl, q2⟩
  r_get := by
    rintro X rfl rfl hu i o ty td pos ho hi hs
    refine ⟨fun pins s σ H Q I h => subD_of PySem.F.slot_dict_getitem.lookup hs (thn (ho.run pins s σ H _ I h) fun u s1 ⟨x, H1, I1, rx, q1⟩ => thn (hi.run pins s1 σ H1 _ I1 q1) fun iv s2 ⟨y, H2, I2, ry, a, kvs, k, v, ex, hd, hk, hv, q2⟩ => ?_)⟩
    subst ex
    obtain rfl : u = Value.ref a := rx
    obtain ⟨kn, dp, b, rfl⟩ := hk
    obtain rfl : iv = Value.ref b := ry
    obtain ⟨xs, ys, e1, e2, e3, z, hsm, pr, dd⟩ := nDict_get I2.hok hd
    refine ⟨dd.typeIs, ?_⟩
    have rv := NRel.val pr k
    rw [e1, hv] at rv
    obtain ⟨w', hw, rw'⟩ := RelO.some_of rv
    obtain ⟨p, hp, hp2⟩ := Option.map_eq_some_iff.mp hw
    refine wpAny_getItem_heap (depth_room hu) ⟨kn.nested I2.hok rfl, dp⟩ dd hp ?_
    rw [hp2]
    exact ⟨v, H2, I2.tok _, rw', q2⟩
  r_put := by
    rintro X rfl rfl hu i o value ty td tv pos pos' ho hi hv hs
    refine ⟨fun pins s σ H D I h => wpAny_Assign_Subscript (thn (hv.run pins s σ H _ I h) fun r s1 ⟨v, H1, I1, rv, q1⟩ => thn (ho.run pins s1 σ H1 _ I1 q1) fun u s2 ⟨x, H2, I2, rx, q2⟩ => thn (hi.run pins s2 σ H2 _ I2 q2) fun iv s3 ⟨y, H3, I3, ry, a, kvs, k, ex, hd, hk, hl, q3⟩ => ?_) hs⟩
    subst ex
    obtain rfl : u = Value.ref a := rx
    obtain ⟨kn, dp, b, rfl⟩ := hk
    obtain rfl : iv = Value.ref b := ry
    obtain ⟨xs, ys, e1, e2, e3, z, hsm, pr, dd⟩ := nDict_get I3.hok hd
    have hlx : xs.length = kvs.length := by rw [← e1, List.length_map]
    have hz : ys.length ≤ sizeLine := by rw [← Paired.length pr]; exact z
    refine wpAny_setItem_heap (hsz := hz) (depth_room hu) ⟨kn.nested I3.hok rfl, dp⟩ dd fun h' dd' hsb => ?_
    have he : ∃ q, h'.get? a = some q := let ⟨q, _, _, hq, _⟩ := dd'; ⟨q, hq⟩
    have hne : ∀ c ks, H3 c = some (.tup ks) → c ≠ a := fun c ks hc => ne_of hc e2 (fun z => nomatch z)
    have tt : ∀ c ks, H3 c = some (.tup ks) → (upd H3 a (NObj X.prog X.w a (storeX xs k b v))) c = some (.tup ks) := fun c ks hc => by rw [upd_ne (hne c ks hc)]; exact hc
    refine ⟨σ, _, d_write (t' := s3.toks + (nestedKind X.prog X.w).draws k) I3 (by rw [e2]; exact True.intro) hsb he (nObj_ok (by have := storeX_len xs k b v; omega) hsm (NRel.put pr k b rv) dd'), q3 _ True.intro ⟨_, ?_, upd_same, fun x hx => ?_⟩⟩
    · rw [storeX_kvs, e1]
    · rcases storeX_mem hx with ⟨y, hy, y1, y2⟩ | ⟨y1, y2⟩
      · rw [← y1, ← y2]; exact ⟨(e3 y hy).1.stay tt, (e3 y hy).2⟩
      · rw [y1, y2]; exact ⟨kn.stay tt, dp⟩
  r_len := by
    rintro X rfl rfl pins s σ H xs us Q I r ⟨a, kvs, rfl, hd, q⟩
    obtain ⟨u, rfl, rx⟩ := vals1 r
    obtain rfl : u = .ref a := rx
    obtain ⟨zs, ys, e1, e2, e3, z, hsm, pr, dd⟩ := nDict_get I.hok hd
    have hl : kvs.length = ys.length := by rw [← e1, List.length_map]; exact Paired.length pr
    refine call_len_dictH hsm dd (by rw [sizeLine_eq] at z; have := Paired.length pr; omega) ?_
    rw [← hl]
    exact ⟨.int _, H, I.tok _, ⟨_, rfl⟩, q⟩
def LObj (P : Program) (w : World) (a : Addr) (kvs : List (Leaf × V)) : HO := .ext fun h => kvs.length ≤ sizeLine ∧ (a == sysModules) = false ∧ ∃ vs, KV kvs vs ∧ h.DictOf (leafKind P w) a vs
theorem lObj_ok {a : Addr} {kvs : List (Leaf × V)} {vs : List (Leaf × Value)} {H : Hp} {h : Heap} (z : kvs.length ≤ sizeLine) (hd : (a == sysModules) = false) (rel : KV kvs vs) (dd : h.DictOf (leafKind P w) a vs) : ObjOk P w H h a (LObj P w a kvs) := by
  obtain ⟨o, es, ep, h1, r⟩ := id dd
  refine ⟨⟨z, hd, vs, rel, dd⟩, ⟨o, h1⟩, fun g1 g2 p k => ?_⟩
  obtain ⟨p1, p2, vs', p3, o', es', ep', p4, p5⟩ := p
  exact ⟨p1, p2, vs', p3, o', es', ep', k _ p4, p5⟩
def lKey (v : V) (k : Leaf) : Prop := ∃ b : Bool, v = .bl b ∧ k = .num (if b = true then 1 else 0)
theorem lKey.is {v : V} {k : Leaf} {u : Value} (h : lKey v k) (r : RelV v u) : (leafKind P w).is k u = true := by
  obtain ⟨b, rfl, rfl⟩ := h
  obtain rfl : u = .bool b := r
  unfold leafKind
  cases b <;> rfl
def gkLeaf (P : Program) (w : World) : GK P w Leaf where
  dict := fun H a kvs => H a = some (LObj P w a kvs)
  key := fun _ v k => lKey v k
  some_ := fun e => ⟨_, e, True.intro⟩
  stay := fun e h _ => h.trans e
  kstay := fun e _ => e
  r_new := by
    rintro X rfl rfl pos
    refine ⟨fun pins s σ H Q I h => wpAny_Dict_empty ?_⟩
    have hd : (s.heap.objs.size == sysModules) = false := beq_eq_false_iff_ne.mpr (Ne.symm (Nat.ne_of_lt I.big))
    exact ⟨.ref s.heap.objs.size, _, I.laid (a := s.heap.objs.size) (o := LObj X.prog X.w s.heap.objs.size []) (t' := s.toks) (fun _ _ q => Heap.get?_push_of_some _ q) (Nat.le_refl _) (lObj_ok (Nat.zero_le _) hd .nil (Heap.DictOf.new _)), rfl, h _ _ (I.hok.fresh (Nat.le_refl _)) True.intro upd_same⟩
  r_nin := by
    rintro X rfl rfl hu i o ty td hi ho
    refine ⟨fun pins s σ H Q I h => thn (hi.run pins s σ H _ I h) fun iv s1 ⟨y, H1, I1, ry, q1⟩ => thn (ho.run pins s1 σ H1 _ I1 q1) fun u s2 ⟨x, H2, I2, rx, a, kvs, k, ex, hd, hk, q2⟩ => ?_⟩
    subst ex
    obtain rfl : u = Value.ref a := rx
    obtain ⟨⟨z, hsm, vs, rel, dd⟩, _⟩ := (show ObjOk X.prog X.w H2 s2.heap a (LObj X.prog X.w a kvs) from I2.hok a _ hd)
    refine wpAny_notIn_of (lKey.is hk ry) hsm dd.mapOf ?_
    rw [← (rel.val k).isSome_eq]
    exact ⟨.bl _, H2, I2.tok _, rfl, q2⟩
  r_get := by
    rintro X rfl rfl hu i o ty td pos ho hi hs
    refine ⟨fun pins s σ H Q I h => subD_of PySem.F.slot_dict_getitem.lookup hs (thn (ho.run pins s σ H _ I h) fun u s1 ⟨x, H1, I1, rx, q1⟩ => thn (hi.run pins s1 σ H1 _ I1 q1) fun iv s2 ⟨y, H2, I2, ry, a, kvs, k, v, ex, hd, hk, hv, q2⟩ => ?_)⟩
    subst ex
    obtain rfl : u = Value.ref a := rx
    obtain ⟨⟨z, hsm, vs, rel, dd⟩, _⟩ := (show ObjOk X.prog X.w H2 s2.heap a (LObj X.prog X.w a kvs) from I2.hok a _ hd)
    refine ⟨dd.typeIs, ?_⟩
    obtain ⟨w', hw, rw'⟩ := RelO.some_of (v := v) (o := valueAt vs k) (by rw [← hv]; exact rel.val k)
    exact wpAny_getItem_of (lKey.is hk ry) dd.mapOf hw ⟨v, H2, I2.tok _, rw', q2⟩
  r_put := by
    rintro X rfl rfl hu i o value ty td tv pos pos' ho hi hv hs
    refine ⟨fun pins s σ H D I h => wpAny_Assign_Subscript (thn (hv.run pins s σ H _ I h) fun r s1 ⟨v, H1, I1, rv, q1⟩ => thn (ho.run pins s1 σ H1 _ I1 q1) fun u s2 ⟨x, H2, I2, rx, q2⟩ => thn (hi.run pins s2 σ H2 _ I2 q2) fun iv s3 ⟨y, H3, I3, ry, a, kvs, k, ex, hd, hk, hl, q3⟩ => ?_) hs⟩
    subst ex
    obtain rfl : u = Value.ref a := rx
    obtain ⟨⟨z, hsm, vs, rel, dd⟩, _⟩ := (show ObjOk X.prog X.w H3 s3.heap a (LObj X.prog X.w a kvs) from I3.hok a _ hd)
    have hz : vs.length ≤ sizeLine := by rw [← rel.length]; exact z
    refine wpAny_setItem_pairs (hsz := hz) (lKey.is hk ry) dd fun h' dd' hsb => ?_
    have he : ∃ q, h'.get? a = some q := let ⟨q, _, _, hq, _⟩ := dd'; ⟨q, hq⟩
    exact ⟨σ, _, d_write (t' := s3.toks + 1) I3 (by rw [hd]; exact True.intro) hsb he (lObj_ok (by have := length_putK kvs k v; omega) hsm (rel.put k rv) dd'), q3 _ True.intro upd_same⟩
  r_len := by
    rintro X rfl rfl pins s σ H xs us Q I r ⟨a, kvs, rfl, hd, q⟩
    obtain ⟨u, rfl, rx⟩ := vals1 r
    obtain rfl : u = .ref a := rx
    obtain ⟨⟨z, hsm, vs, rel, dd⟩, _⟩ := (show ObjOk X.prog X.w H s.heap a (LObj X.prog X.w a kvs) from I.hok a _ hd)
    refine call_len_dict hsm dd (by rw [← rel.length]; rw [sizeLine_eq] at z; omega) ?_
    rw [← rel.length]
    exact ⟨.int _, H, I.tok _, ⟨_, rfl⟩, q⟩
end
end K87

set_option autoImplicit true
set_option Elab.async false
set_option linter.all false
set_option maxRecDepth 100000
set_option maxHeartbeats 4000000
/-! K87DictT: a dict's display and comprehension with keys that are tuples. -/
namespace K87
open PySem L2 PySem.Spec PyProof.Rows

/-- what one pair of a display is to give -/
def oneT (p : Addr) (Q : VK) : List (V × V) → Hp → Prop
  | [(x, y)], H2 => H2 p = some (.dT []) ∧ ∃ b k, x = .ref b ∧ H2 b = some (.tup (k.map kV)) ∧ Q (.ref p) (upd H2 p (.dT [(k, y)]))
  | _, _ => False
/-- {(a, ..): v} -/
def tDispT (tk tv : TE) : TE := fun σ H Q => ∀ p, H p = none → tk σ (upd H p (.dT [])) fun x H1 => tv σ H1 fun y H2 => oneT p Q [(x, y)] H2
section
variable {X : Cx}
theorem pe_dispT {pos : Pos} {k v : Expr} {tk tv : TE} (hu : X.A.units + 1 < cLine) (hk : PE X k tk) (hv : PE X v tv) : PE X (.Dict [some k] [v] pos) (tDispT tk tv) := by
  refine ⟨fun pins s σ H Q I q => ?_⟩
  have hn := I.hok.fresh (Nat.le_refl s.heap.objs.size)
  have I1 := I.laid (a := s.heap.objs.size) (o := .dT []) (h' := s.heap.push { cls := .type "dict", data := .dict #[] }) (t' := s.toks) (fun _ _ q => Heap.get?_push_of_some _ q) (Nat.le_refl _) (dt_empty s.heap I.big)
  have pp : PPs X pos [some k] [v] [(tk, tv)] := pps_cons hk hv pps_nil
  have hz : (evalEachOpt [some k] X.env).zip ((evalEach [v] X.env).map fun q => do let z ← q; standAt pos; pure z) = (pairTrees [some k] [v] X.env pos).map fun p => (some p.1, p.2) := zip_pairTrees [some k] [v] X.env pos rfl rfl
  rw [arm_eval_Dict, hz, dictDisplay_pairs (pairTrees [some k] [v] X.env pos) (by intro e; cases e) (by show 1 < 17; decide)]
  refine wpAny_bind (wpAny_standAt (wpAny_bind (wpAny_subDictH (knd := tupleKind (mixKind X.prog X.w)) (Q := fun d s' => wpAny (model X.prog X.w) X.A (pure (Value.ref d)) (EP X pins σ Q) X.xe s') (show X.A.units < cLine by omega) (by show 1 ≤ 15; decide)
    (thn (pp.run pins _ σ _ (oneT s.heap.objs.size Q) I1 (q _ hn)) fun ws s2 ⟨ps, H2, I2, rel, q2⟩ => ?_))))
  match ps, rel, q2 with
  | [(x, y)], .cons (b := (u, r)) h .nil, ⟨e, b, ks, ex, eb, q3⟩ =>
    obtain ⟨h1, h2⟩ := h
    simp only at h1 h2
    subst ex
    obtain rfl : u = Value.ref b := h1
    obtain ⟨z, hd, xs, r0, dd⟩ := dt_of I2.hok e
    cases r0
    refine ⟨[(ks, b, r)], ⟨rfl, rfl, key_of I2.hok eb, True.intro⟩, dd, fun h' tk' dd' hs => wpAny_pure ⟨.ref s.heap.objs.size, _, ?_, rfl, q3⟩⟩
    obtain ⟨o, es, ep, g1, g2, g3, g4, g5, g6⟩ := dd'
    refine d_write (t' := tk') I2 (by rw [e]; exact True.intro) hs ⟨o, g1⟩ ⟨by show 1 ≤ sizeLine; decide, hd, [(ks, b, r)], .cons ⟨rfl, ?_, h2⟩ .nil, o, es, ep, g1, g2, g3, g4, g6⟩
    rw [upd_ne (ne_of eb e (fun z => nomatch z))]
    exact eb
end

/-! ### a dict comprehension, its dict told by what stands there (E0) and what a store asks (St) -/
/-- the dict D gets z at y -/
abbrev Sto := Addr → V → V → Hp → (Hp → Prop) → Prop
def tDg (E0 : HO) (St : Sto) (wi : TI) (g : TG) (tt : TT) (tk tv : TE) (vs : List Nat) : TE := fun σ H Q => wi σ H fun J H1 => ∀ D, H1 D = none → ∃ W : Nat → Nat → Hp → Prop, (∃ m, W 0 m (upd H1 D E0)) ∧
  ∀ i m H, W i m H → (J.stop i H ∧ Q (.ref D) H) ∨ (J.go i H ∧ ∃ Nx : Hp → Prop, (∀ H', Nx H' → ∃ m', m' < m ∧ W (i + 1) m' H') ∧
    ∀ x H', J.yld i H x H' → g x (wipe σ vs) H' fun σ2 H2 => wipe σ2 vs = wipe σ vs ∧ tt σ2 H2 fun b H3 => if b = true then tk σ2 H3 fun y H4 => tv σ2 H4 fun z H5 => St D y z H5 Nx else Nx H3)
section
variable {X : Cx} {E0 : HO} {St : Sto}
theorem dg_core (h0 : ∀ (h : Heap) (H : Hp), sysModules < h.objs.size → ObjOk X.prog X.w H (h.push { cls := .type "dict", data := .dict #[] }) h.objs.size E0)
    (hst : ∀ (Y : Cx) (pins : List (Addr × Obj)) (σ : L2.St) (H : Hp) (s : Shared) (D : Addr) (y z : V) (u r : Value) (N : Hp → Prop), Y.prog = X.prog → Y.w = X.w → Y.A = X.A → Inv Y pins σ H s → RelV y u → RelV z r → St D y z H N →
      wpAny (model Y.prog Y.w) Y.A (dictSet D u r) (fun _ s' => ∃ H', Inv Y pins σ H' s' ∧ N H') (fun _ _ => False) s)
    {kx vx tg iter : Expr} {ifs : List Expr} {scope : Scope} {own : List (Str × Nat)} {wi : TI} {g : TG} {tt : TT} {tk tv : TE} (hc : X.calm = true) (hN : X.N.Nodup) (hi : PI X tg iter wi) (ok : BlkOk X.N X.env.scope scope own)
    (hg : ∀ (s : Shared) (H : Hp) (C : Addr) (cl : List (Str × Addr)) (fp : List Addr), PG (X.blk s H scope (compEnvC scope cl C X.env) fp) tg g) (ht : ∀ (s : Shared) (H : Hp) (C : Addr) (cl : List (Str × Addr)) (fp : List Addr), PTs (X.blk s H scope (compEnvC scope cl C X.env) fp) ifs tt)
    (hk : ∀ (s : Shared) (H : Hp) (C : Addr) (cl : List (Str × Addr)) (fp : List Addr), PE (X.blk s H scope (compEnvC scope cl C X.env) fp) kx tk)
    (he : ∀ (s : Shared) (H : Hp) (C : Addr) (cl : List (Str × Addr)) (fp : List Addr), PE (X.blk s H scope (compEnvC scope cl C X.env) fp) vx tv) (hs : ∀ x, foldedSetIterable iter X.env x = pure x)
    {pins : List (Addr × Obj)} {s : Shared} {σ : L2.St} {H : Hp} {Q : VK} {pos pos' : Pos} {use : Option (Value → Sem Unit)} {Qf : Value → Shared → Prop} (I : Inv X pins σ H s) (h : tDg E0 St wi g tt tk tv (own.map (·.2)) σ H Q)
    (hR : ∀ D C s' m H', Inv X pins σ H' s' → Q (.ref D) H' → s'.heap.Ns C m → FpOk X pins H' C → compPost (model X.prog X.w) X.A X.xe use Qf (.ref D) C (.ok .next) s') :
    wpAny (model X.prog X.w) X.A (comprehension (.DictComp kx vx [⟨tg, iter, ifs, 0⟩] scope pos) scope X.env pos' newDict false (eval iter X.env) use) Qf X.xe s := by
  have hfree : ∀ y ∈ scope.names, y.2 = .free → ∃ c, X.env.cells.lookup y.1 = some c := fun y hy e =>
    (ok.free y hy e).elim (fun k => I.ok.has _ (.inl k)) (fun k => I.ok.has _ (.inr k))
  refine wpAny_comprehension_free (use := use) rfl hs (closure_ok hfree) ok.kind (fun y hy e => by rw [ok.uniq y hy, e]) (thn (hi.run pins s σ H _ I h) fun xv s1 hx => thn hx fun itv s2 h2 => ?_)
  obtain ⟨it, fp, tn, J, H2, e, I2, T, st2, f2, q⟩ := h2
  subst e
  refine wpAny_newObj_type (newEnv_comp ?_)
  generalize hD : s2.heap.objs.size = D
  have hDn : H2 D = none := I2.hok.fresh (Nat.le_of_eq hD)
  obtain ⟨W, ⟨m0, w0⟩, turn⟩ := q D hDn
  generalize hs3 : ({ s2 with heap := s2.heap.push { cls := .type "dict", data := .dict #[] } } : Shared) = s3
  have h3 : s3.heap = s2.heap.push { cls := .type "dict", data := .dict #[] } := by rw [← hs3]
  generalize hH3 : upd H2 D E0 = H3 at w0
  have I3 : Inv X pins σ H3 s3 := by
    rw [← hs3, ← hH3]
    refine I2.laid (t' := s2.toks) (fun b o e => Heap.get?_push_of_some _ e) (Nat.le_of_eq hD) ?_
    rw [← hD]
    exact h0 s2.heap _ I2.big
  have f3 : ∀ b ∈ fp, FpOk X pins H3 b ∧ b < s3.heap.objs.size := fun b hb => by
    obtain ⟨o, eo, _⟩ := T.obj _ _ st2 b hb
    have hlt := Heap.lt_size eo
    refine ⟨⟨?_, (f2 b hb).2⟩, by rw [h3, Heap.size_push]; exact Nat.lt_succ_of_lt hlt⟩
    rw [← hH3, upd_ne (by rw [← hD]; exact Nat.ne_of_lt hlt)]
    exact (f2 b hb).1
  have st3 : tn 0 s3.heap := T.keep _ _ _ st2 fun b _ o e => by rw [h3]; exact Heap.get?_push_of_some _ e
  have I4 := block_start I3 ok hN f3
  generalize hcl : cellsFrom (s3.heap.objs.size + 1) scope.names (cloFrom X.env.cells scope.names []) = cl at I4
  have pg := hg s3 H3 s3.heap.objs.size cl fp
  have pt := ht s3 H3 s3.heap.objs.size cl fp
  have pk := hk s3 H3 s3.heap.objs.size cl fp
  have pe := he s3 H3 s3.heap.objs.size cl fp
  show codeAny _ _ (.compStart (.DictComp kx vx [⟨tg, iter, ifs, 0⟩] scope pos) 0 (.ref it) (.ref D) (compEnvC scope cl s3.heap.objs.size X.env)) (compPost (model X.prog X.w) X.A X.xe use Qf (.ref D) s3.heap.objs.size) { s3 with heap := pushCells (s3.heap.push { cls := .type "dict", data := .dict #[] }) scope.names }
  generalize hce : compEnvC scope cl s3.heap.objs.size X.env = ce at I4 pg pt pk pe ⊢
  have cL : ce.locals = s3.heap.objs.size := by subst hce; rfl
  generalize hs4 : ({ s3 with heap := pushCells (s3.heap.push { cls := .type "dict", data := .dict #[] }) scope.names } : Shared) = s4 at I4 ⊢
  have st4 : tn 0 s4.heap := T.keep _ _ _ st3 fun b _ o e => by rw [← hs4]; exact pushCells_keeps _ _ _ _ (Heap.get?_push_of_some _ e)
  have stat : ∀ {σ' : L2.St} {H' : Hp} {s' : Shared}, Inv (X.blk s3 H3 scope ce fp) [] σ' H' s' → (∀ b ∈ fp, H' b = none) → ∀ b ∈ fp, FpOk (X.blk s3 H3 scope ce fp) [] H' b := fun {σ' H' s'} I' hn b hb =>
    ⟨hn b hb, (I'.ok.exf b hb).1, I'.ok.exfs b hb, .inl hb, fun x c e => (I'.ok.exf b hb).2 x c e, fun p hp => absurd (show p ∈ ([] : List (Addr × Obj)) ++ [] from hp) (by simp)⟩
  refine codeAny_compStart_dict (?_ : codeAny (model X.prog X.w) X.A (.compLoop (.DictComp kx vx [⟨tg, iter, ifs, 0⟩] scope pos) 0 (.ref it) (.ref D) ce) _ s4) (T.self X.A 0 _ _ _ st4 ?_)
  all_goals
    refine compLoop_anyD (fun n s' => ∃ i H', Inv (X.blk s3 H3 scope ce fp) [] (wipe σ (own.map (·.2))) H' s' ∧ tn i s'.heap ∧ (∀ b ∈ fp, H' b = none) ∧ W i n H') ?_ m0 ⟨0, H3, I4, st4, fun b hb => (f3 b hb).1.1, w0⟩
    rintro n s5 ⟨i, H5, I5, st5, n5, w5⟩
    rcases turn i n H5 w5 with ⟨stop, qq⟩ | ⟨go, Nx, hNx, step⟩
    · have td := T.done (X.blk s3 H3 scope ce fp) rfl rfl rfl hc i [] s5 _ H5 (fun _ _ => False) I5 (stat I5 n5) st5 stop
      refine thnF td fun r s6 ⟨hr, I6⟩ => ?_
      subst hr
      have I7 : Inv X pins σ H5 s6 := I3.call' (ch := fp) I6.os I6.base I6.hok I6.bare fun b hb => ⟨(f3 b hb).1.2.2.2.1, (f3 b hb).1.2.1, (f3 b hb).1.2.2.2.2.1, (f3 b hb).1.2.2.2.2.2⟩
      have nC : H5 s3.heap.objs.size = none := by rw [← cL]; exact I6.free
      obtain ⟨m, hn, _⟩ := I6.loc
      rw [show (X.blk s3 H3 scope ce fp).env.locals = s3.heap.objs.size from cL] at hn
      exact hR D s3.heap.objs.size s6 m H5 I7 qq hn (I3.fpOk (Nat.le_refl _) nC)
    · have ti := T.item (X.blk s3 H3 scope ce fp) rfl rfl rfl hc i [] s5 _ H5 (fun _ _ => False) I5 (stat I5 n5) st5 go
      refine thnF ti fun r s6 ⟨u, hr, h6⟩ => ?_
      subst hr
      refine thnF h6 fun _ s7 ⟨x, H7, I7, r7, y7, st7, n7⟩ => ?_
      have I7' := I7.pinned (stat I7 n7) (T.obj _ _ st7)
      refine thnF (pg.run _ s7 _ H7 x u _ I7' r7 (step x H7 y7)) fun _ s8 ⟨σ8, H8, I8, hw8, q8⟩ => ?_
      refine thnF (pt.run _ s8 σ8 H8 _ I8 q8) fun b s9 ⟨H9, I9, q9⟩ => ?_
      have fin : ∀ {s' : Shared} {H' : Hp}, Inv (X.blk s3 H3 scope ce fp) ([] ++ pinsAt fp s7.heap) σ8 H' s' → Nx H' → ∃ m, m < n ∧ ∃ i H', Inv (X.blk s3 H3 scope ce fp) [] (wipe σ (own.map (·.2))) H' s' ∧ tn i s'.heap ∧ (∀ b ∈ fp, H' b = none) ∧ W i m H' := by
        intro s' H' I' nx
        obtain ⟨m', hm, w'⟩ := hNx H' nx
        have pin' : ∀ b ∈ fp, ∀ o, s7.heap.get? b = some o → s'.heap.get? b = some o ∧ H' b = none := fun b hb o e =>
          let z := I'.pin (b, o) (List.mem_append_right _ (List.mem_append_right _ (mem_pinsAt hb e)))
          ⟨z.1, z.2.1⟩
        refine ⟨m', hm, i + 1, H', (I'.unpinned (pins := [])).weak (by rw [← hw8, wipe_length]) (fun j v e => ?_), T.keep _ _ _ st7 fun b hb o e => (pin' b hb o e).1, fun b hb => ?_, w'⟩
        · rw [← hw8] at e
          exact (wipe_some e).1
        · obtain ⟨o, e, _⟩ := T.obj _ _ st7 b hb
          exact (pin' b hb o e).2
      cases b with
      | false =>
        rw [if_neg Bool.false_ne_true] at q9
        rw [if_neg Bool.false_ne_true]
        exact fin I9 q9
      | true =>
        rw [if_pos rfl] at q9
        rw [if_pos rfl]
        refine thnF (pk.run _ s9 σ8 H9 _ I9 q9) fun z s10 ⟨yk, H10, I10, r10, q10⟩ => ?_
        refine thnF (pe.run _ s10 σ8 H10 _ I10 q10) fun z2 s11 ⟨yv, H11, I11, r11, q11⟩ => ?_
        exact thnF (hst (X.blk s3 H3 scope ce fp) _ σ8 H11 s11 D yk yv z z2 Nx rfl rfl rfl I11 r10 r11 q11) fun _ s12 ⟨H12, I12, nx⟩ => fin I12 nx
theorem pe_dg (h0 : ∀ (h : Heap) (H : Hp), sysModules < h.objs.size → ObjOk X.prog X.w H (h.push { cls := .type "dict", data := .dict #[] }) h.objs.size E0)
    (hst : ∀ (Y : Cx) (pins : List (Addr × Obj)) (σ : L2.St) (H : Hp) (s : Shared) (D : Addr) (y z : V) (u r : Value) (N : Hp → Prop), Y.prog = X.prog → Y.w = X.w → Y.A = X.A → Inv Y pins σ H s → RelV y u → RelV z r → St D y z H N →
      wpAny (model Y.prog Y.w) Y.A (dictSet D u r) (fun _ s' => ∃ H', Inv Y pins σ H' s' ∧ N H') (fun _ _ => False) s)
    {kx vx tg iter : Expr} {ifs : List Expr} {scope : Scope} {own : List (Str × Nat)} {pos : Pos} {wi : TI} {g : TG} {tt : TT} {tk tv : TE} (hc : X.calm = true) (hN : X.N.Nodup) (hi : PI X tg iter wi) (ok : BlkOk X.N X.env.scope scope own)
    (hg : ∀ (s : Shared) (H : Hp) (C : Addr) (cl : List (Str × Addr)) (fp : List Addr), PG (X.blk s H scope (compEnvC scope cl C X.env) fp) tg g) (ht : ∀ (s : Shared) (H : Hp) (C : Addr) (cl : List (Str × Addr)) (fp : List Addr), PTs (X.blk s H scope (compEnvC scope cl C X.env) fp) ifs tt)
    (hk : ∀ (s : Shared) (H : Hp) (C : Addr) (cl : List (Str × Addr)) (fp : List Addr), PE (X.blk s H scope (compEnvC scope cl C X.env) fp) kx tk)
    (he : ∀ (s : Shared) (H : Hp) (C : Addr) (cl : List (Str × Addr)) (fp : List Addr), PE (X.blk s H scope (compEnvC scope cl C X.env) fp) vx tv) (hs : ∀ x, foldedSetIterable iter X.env x = pure x := by intro _; rfl) :
    PE X (.DictComp kx vx [⟨tg, iter, ifs, 0⟩] scope pos) (tDg E0 St wi g tt tk tv (own.map (·.2))) := by
  refine ⟨fun pins s σ H Q I h => ?_⟩
  rw [arm_eval_DictComp]
  refine dg_core h0 hst hc hN hi ok hg ht hk he hs I h fun D C s' m H' I' q hn f => ⟨m, hn, fun h'' sb => ?_⟩
  obtain ⟨g0, g1, g2, g3, g4, g5⟩ := f
  exact ⟨.ref D, H', I'.turned (t' := s'.toks) (fun b o hb e => (sb.2 b hb).trans e) g0 g1 g3 g4 g5, rfl, q⟩
/-- name = {..} on one line, the name a local -/
theorem ps_setDg (h0 : ∀ (h : Heap) (H : Hp), sysModules < h.objs.size → ObjOk X.prog X.w H (h.push { cls := .type "dict", data := .dict #[] }) h.objs.size E0)
    (hst : ∀ (Y : Cx) (pins : List (Addr × Obj)) (σ : L2.St) (H : Hp) (s : Shared) (D : Addr) (y z : V) (u r : Value) (N : Hp → Prop), Y.prog = X.prog → Y.w = X.w → Y.A = X.A → Inv Y pins σ H s → RelV y u → RelV z r → St D y z H N →
      wpAny (model Y.prog Y.w) Y.A (dictSet D u r) (fun _ s' => ∃ H', Inv Y pins σ H' s' ∧ N H') (fun _ _ => False) s)
    {kx vx tg iter : Expr} {ifs : List Expr} {scope : Scope} {own : List (Str × Nat)} {i : Nat} {y : Str} {py pos spos : Pos} {wi : TI} {g : TG} {tt : TT} {tk tv : TE} (hc : X.calm = true) (hN : X.N.Nodup) (hi : PI X tg iter wi) (ok : BlkOk X.N X.env.scope scope own)
    (hg : ∀ (s : Shared) (H : Hp) (C : Addr) (cl : List (Str × Addr)) (fp : List Addr), PG (X.blk s H scope (compEnvC scope cl C X.env) fp) tg g) (ht : ∀ (s : Shared) (H : Hp) (C : Addr) (cl : List (Str × Addr)) (fp : List Addr), PTs (X.blk s H scope (compEnvC scope cl C X.env) fp) ifs tt)
    (hk : ∀ (s : Shared) (H : Hp) (C : Addr) (cl : List (Str × Addr)) (fp : List Addr), PE (X.blk s H scope (compEnvC scope cl C X.env) fp) kx tk)
    (he : ∀ (s : Shared) (H : Hp) (C : Addr) (cl : List (Str × Addr)) (fp : List Addr), PE (X.blk s H scope (compEnvC scope cl C X.env) fp) vx tv) (hy : X.N[i]? = some y) (hyl : X.env.scope.names.lookup y = some .local)
    (hsw : swapsWith (.DictComp kx vx [⟨tg, iter, ifs, 0⟩] scope pos) (some (.Name y py)) spos.line X.env = pure true) (hs : ∀ x, foldedSetIterable iter X.env x = pure x := by intro _; rfl) :
    PS X (.Assign [.Name y py] (.DictComp kx vx [⟨tg, iter, ifs, 0⟩] scope pos) spos) (tAsg (tDg E0 St wi g tt tk tv (own.map (·.2))) (gName i)) := by
  refine ⟨fun pins s σ H D I h => ?_⟩
  rw [exec_Assign_Name_used _ _ _ _ hsw]
  refine wpAny_bind (wpAny_standAt (wpAny_bind ?_))
  show wpAny _ X.A (do let _ ← comprehension (.DictComp kx vx [⟨tg, iter, ifs, 0⟩] scope pos) scope X.env (firstIterPos [⟨tg, iter, ifs, 0⟩] pos) newDict false (eval iter X.env) (some (assign (.Name y py) X.env))) _ _ s
  refine wpAny_bind (thn (dg_core (Qf := fun _ s' => SP X pins D .next s') h0 hst hc hN hi ok hg ht hk he hs I (show tDg E0 St wi g tt tk tv (own.map (·.2)) σ H (fun x H1 => gName i x σ H1 D.nx) from h) fun L C s' m H' I' q hn f => ?_) fun _ s' hq => wpAny_pure (wpAny_pure hq))
  show wpAny _ _ (assign (.Name y py) X.env (.ref L)) _ _ _
  refine wpAny_assign_Name (store_ok2 (v := V.ref L) I' hN hy (.inl hyl) rfl (fun s2 I2 ⟨a, sb, ha⟩ => ?_) (.inr hyl))
  obtain ⟨g0, g1, g2, g3, g4, g5⟩ := f
  have hCa : C ≠ a := by
    rcases ha with z | z
    · rw [z]; exact g1
    · exact fun e => g4 y a z e.symm
  exact ⟨m, hn.sameBut sb hCa, fun h3 sb3 => ⟨_, H', I2.turned (t' := s2.toks) (fun b o hb e => (sb3.2 b hb).trans e) g0 g1 g3 g4 g5, q⟩⟩
theorem sw_trueD {kx vx : Expr} {gs : List Comprehension} {scope : Scope} {pos py : Pos} {y : Str} {l : Nat} {env : Env} (hk : env.scope.kind = .function) (hy : env.scope.names.lookup y = some .local) (hl : (py.line == pos.line) = true)
    (ha : (scope.names.any fun (n, k) => n == y && (k == .local || k == .cell)) = false) : swapsWith (.DictComp kx vx gs scope pos) (some (.Name y py)) l env = pure true := by
  have ky : env.kindOf y = some .local := hy
  have hb : env.blockKind = .function := by unfold Env.blockKind; rw [hk]; rfl
  unfold swapsWith
  simp only [hb, ky, ha, Expr.pos, hl]
  rfl
end

/-- keys that are tuples of ints and texts -/
def stoT : Sto := fun D y z H N => ∃ kvs k b, y = .ref b ∧ H D = some (.dT kvs) ∧ H b = some (.tup (k.map kV)) ∧ kvs.length < sizeLine ∧ N (upd H D (.dT (putK kvs k z)))
abbrev tDcT := tDg (.dT []) stoT
theorem dcT_new {P : Program} {w : World} (h : Heap) (H : Hp) (hb : sysModules < h.objs.size) : ObjOk P w H (h.push { cls := .type "dict", data := .dict #[] }) h.objs.size (.dT []) := dt_empty h hb
theorem dcT_sto {X : Cx} (hu : X.A.units + 1 < cLine) (Y : Cx) (pins : List (Addr × Obj)) (σ : L2.St) (H : Hp) (s : Shared) (D : Addr) (y z : V) (u r : Value) (N : Hp → Prop) (e1 : Y.prog = X.prog) (e2 : Y.w = X.w) (e3 : Y.A = X.A) (I : Inv Y pins σ H s) (ry : RelV y u) (rz : RelV z r) (h : stoT D y z H N) :
    wpAny (model Y.prog Y.w) Y.A (dictSet D u r) (fun _ s' => ∃ H', Inv Y pins σ H' s' ∧ N H') (fun _ _ => False) s := by
  obtain ⟨kvs, k, b, rfl, hD, hb, hl, n⟩ := h
  obtain rfl : u = Value.ref b := ry
  obtain ⟨zl, hd, xs, rel, dd⟩ := dt_of I.hok hD
  have hz : xs.length ≤ sizeLine := by rw [← Paired.length rel]; exact zl
  refine wpAny_dictSet_heap (hsz := hz) (show Y.A.units < cLine by rw [e3]; omega) (key_of I.hok hb) dd fun h' dd' hsb => ?_
  obtain ⟨q, es, ep, hq, h2, h3, h4, _, h5⟩ := dd'
  refine ⟨_, d_write (ob := .dT (putK kvs k z)) (t' := s.toks + (tupleKind (mixKind Y.prog Y.w)).draws k) I (by rw [hD]; exact True.intro) hsb ⟨q, hq⟩ ⟨by have := length_putK kvs k z; omega, hd, _, (rel.put k hb rz).keeps fun c ys ec => ?_, q, es, ep, hq, h2, h3, h4, h5⟩, n⟩
  rw [upd_ne (ne_of ec hD (fun z => nomatch z))]
  exact ec
end K87

set_option autoImplicit true
set_option Elab.async false
set_option linter.all false
set_option maxRecDepth 100000
set_option maxHeartbeats 4000000
/-! K87Base: data that stands in a frozen part Z of the heap H; what a def or an expression may change (Grow); comprehensions and loops over such data. -/
namespace K87
open PySem L2 PySem.Spec PyProof.Rows

/-! ### data in the frozen part -/
abbrev Rep (α : Type) := Hp → V → α → Prop
class Mono {α : Type} (p : Rep α) : Prop where
  mono : ∀ {Z Z' : Hp} {v : V} {x : α}, Same Z Z' → p Z v x → p Z' v x
section
variable {α β : Type}
def isN : Rep Nat := fun _ v n => v = .int (n : Int)
def isI : Rep Int := fun _ v i => v = .int i
def isS : Rep Str := fun _ v s => v = .str s
def isB : Rep Bool := fun _ v b => v = .bl b
def isL (p : Rep α) : Rep (List α) := fun Z v xs => ∃ a vs, v = .ref a ∧ Z a = some (.lst vs) ∧ Paired (p Z) vs xs
def isT (p : Rep α) : Rep (List α) := fun Z v xs => ∃ a vs, v = .ref a ∧ Z a = some (.tup vs) ∧ Paired (p Z) vs xs
def isP (p : Rep α) (q : Rep β) : Rep (α × β) := fun Z v x => ∃ a v1 v2, v = .ref a ∧ Z a = some (.tup [v1, v2]) ∧ p Z v1 x.1 ∧ q Z v2 x.2
/-- any value -/
def isAny : Rep Unit := fun _ _ _ => True
instance : Mono isN := ⟨fun _ h => h⟩
instance : Mono isI := ⟨fun _ h => h⟩
instance : Mono isS := ⟨fun _ h => h⟩
instance : Mono isB := ⟨fun _ h => h⟩
instance : Mono isAny := ⟨fun _ h => h⟩
instance {p : Rep α} [Mono p] : Mono (isL p) := ⟨fun s ⟨a, vs, e, h, r⟩ => ⟨a, vs, e, s _ _ h, Paired.mapP r fun _ _ q => Mono.mono s q⟩⟩
instance {p : Rep α} [Mono p] : Mono (isT p) := ⟨fun s ⟨a, vs, e, h, r⟩ => ⟨a, vs, e, s _ _ h, Paired.mapP r fun _ _ q => Mono.mono s q⟩⟩
instance {p : Rep α} {q : Rep β} [Mono p] [Mono q] : Mono (isP p q) := ⟨fun s ⟨a, v, w, e, h, r1, r2⟩ => ⟨a, v, w, e, s _ _ h, Mono.mono s r1, Mono.mono s r2⟩⟩
theorem pr_r {F : α → β → Prop} : ∀ {vs : List α} {xs : List β}, Paired F vs xs → ∀ {i : Nat} {x : β}, xs[i]? = some x → ∃ v, vs[i]? = some v ∧ F v x
  | _, _, .nil, _, _, e => by simp at e
  | _, _, .cons r _, 0, _, e => by simp at e; subst e; exact ⟨_, rfl, r⟩
  | _, _, .cons _ t, i + 1, _, e => by
    obtain ⟨v, h1, h2⟩ := pr_r t (i := i) (by simpa using e)
    exact ⟨v, by simpa using h1, h2⟩
theorem pr_map {γ : Type} {F : α → β → Prop} {G : α → γ → Prop} {f : β → γ} : ∀ {vs : List α} {xs : List β}, Paired F vs xs → (∀ v x, F v x → G v (f x)) → Paired G vs (xs.map f)
  | _, _, .nil, _ => .nil
  | _, _, .cons r t, h => .cons (h _ _ r) (pr_map t h)
theorem pr_app {F : α → β → Prop} : ∀ {vs ws : List α} {xs ys : List β}, Paired F vs xs → Paired F ws ys → Paired F (vs ++ ws) (xs ++ ys)
  | _, _, _, _, .nil, s => s
  | _, _, _, _, .cons r t, s => .cons r (pr_app t s)
theorem pr_rev {F : α → β → Prop} : ∀ {vs : List α} {xs : List β}, Paired F vs xs → Paired F vs.reverse xs.reverse
  | _, _, .nil => .nil
  | _, _, .cons r t => by rw [List.reverse_cons, List.reverse_cons]; exact pr_app (pr_rev t) (.cons r .nil)
theorem pr_drop {F : α → β → Prop} : ∀ {vs : List α} {xs : List β} (n : Nat), Paired F vs xs → Paired F (vs.drop n) (xs.drop n)
  | _, _, 0, r => r
  | _, _, _ + 1, .nil => .nil
  | _, _, n + 1, .cons _ t => pr_drop n t
theorem pr_take {F : α → β → Prop} : ∀ {vs : List α} {xs : List β} (n : Nat), Paired F vs xs → Paired F (vs.take n) (xs.take n)
  | _, _, 0, _ => .nil
  | _, _, _ + 1, .nil => .nil
  | _, _, n + 1, .cons r t => .cons r (pr_take n t)
theorem pr_set {F : α → β → Prop} {v : α} {x : β} (h : F v x) : ∀ {vs : List α} {xs : List β} (i : Nat), Paired F vs xs → Paired F (vs.set i v) (xs.set i x)
  | _, _, _, .nil => .nil
  | _, _, 0, .cons _ t => .cons h t
  | _, _, i + 1, .cons r t => .cons r (pr_set h i t)
theorem pr_fn {f : β → α} : ∀ {vs : List α} {xs : List β}, Paired (fun v x => v = f x) vs xs → vs = xs.map f
  | _, _, .nil => rfl
  | _, _, .cons r t => by rw [List.map_cons, r, pr_fn t]
theorem pr_of {f : β → α} : ∀ {xs : List β}, Paired (fun v x => v = f x) (xs.map f) xs
  | [] => .nil
  | _ :: xs => .cons rfl pr_of
/-- the list of the ints, bools, texts themselves -/
theorem isL_N {Z : Hp} {v : V} {xs : List Nat} : isL isN Z v xs ↔ ∃ a, v = .ref a ∧ Z a = some (.lst (xs.map fun n : Nat => V.int (n : Int))) :=
  ⟨fun ⟨a, vs, e, h, r⟩ => ⟨a, e, by rw [h, pr_fn (f := fun n : Nat => V.int (n : Int)) r]⟩, fun ⟨a, e, h⟩ => ⟨a, _, e, h, pr_of⟩⟩
theorem isT_N {Z : Hp} {v : V} {xs : List Nat} : isT isN Z v xs ↔ ∃ a, v = .ref a ∧ Z a = some (.tup (xs.map fun n : Nat => V.int (n : Int))) :=
  ⟨fun ⟨a, vs, e, h, r⟩ => ⟨a, e, by rw [h, pr_fn (f := fun n : Nat => V.int (n : Int)) r]⟩, fun ⟨a, e, h⟩ => ⟨a, _, e, h, pr_of⟩⟩
theorem isL_B {Z : Hp} {v : V} {xs : List Bool} : isL isB Z v xs ↔ ∃ a, v = .ref a ∧ Z a = some (.lst (xs.map V.bl)) :=
  ⟨fun ⟨a, vs, e, h, r⟩ => ⟨a, e, by rw [h, pr_fn (f := V.bl) r]⟩, fun ⟨a, e, h⟩ => ⟨a, _, e, h, pr_of⟩⟩
theorem isL_S {Z : Hp} {v : V} {xs : List Str} : isL isS Z v xs ↔ ∃ a, v = .ref a ∧ Z a = some (.lst (xs.map V.str)) :=
  ⟨fun ⟨a, vs, e, h, r⟩ => ⟨a, e, by rw [h, pr_fn (f := V.str) r]⟩, fun ⟨a, e, h⟩ => ⟨a, _, e, h, pr_of⟩⟩
end

/-! ### what may change: new things, and the things of M -/
structure Grow (M : Addr → Prop) (Z H Z' H' : Hp) : Prop where
  z : Same Z Z'
  h : ∀ a o, ¬ M a → H a = some o → H' a = some o
  dom : ∀ a o, H a = some o → ∃ o', H' a = some o'
  zh : Same Z' H'
  new : ∀ a o, Z' a = some o → Z a = some o ∨ H a = none
def Non : Addr → Prop := fun _ => False
abbrev Gr := Grow Non
section
variable {M : Addr → Prop} {Z H Z1 H1 Z2 H2 : Hp} {a l p : Addr} {o u : HO}
theorem Grow.refl (s : Same Z H) : Grow M Z H Z H := ⟨Same.refl Z, fun _ _ _ h => h, fun _ o h => ⟨o, h⟩, s, fun _ _ h => .inl h⟩
theorem Grow.trans (g : Grow M Z H Z1 H1) (g' : Grow M Z1 H1 Z2 H2) : Grow M Z H Z2 H2 :=
  ⟨g.z.trans g'.z, fun a o m e => g'.h a o m (g.h a o m e), fun a o e => let ⟨_, e1⟩ := g.dom a o e; g'.dom _ _ e1, g'.zh, fun a o e => by
    rcases g'.new a o e with e | e
    · exact g.new a o e
    · right
      cases q : H a with
      | none => rfl
      | some u =>
        obtain ⟨u', e1⟩ := g.dom a u q
        rw [e1] at e; cases e⟩
theorem Gr.same (g : Gr Z H Z1 H1) : Same H H1 := fun a o e => g.h a o (fun z => z) e
theorem Gr.to (g : Gr Z H Z1 H1) : Grow M Z H Z1 H1 := ⟨g.z, fun a o _ e => g.h a o (fun z => z) e, g.dom, g.zh, g.new⟩
/-- a new thing, not frozen -/
theorem Grow.alloc (g : Grow M Z H Z1 H1) (hp : H1 p = none) : Grow M Z H Z1 (upd H1 p o) :=
  g.trans ⟨Same.refl _, fun a u _ e => by rw [upd_ne (ne_of_none e hp)]; exact e, fun a u e => ⟨u, by rw [upd_ne (ne_of_none e hp)]; exact e⟩,
    fun a u e => by rw [upd_ne (ne_of_none (g.zh a u e) hp)]; exact g.zh a u e, fun _ _ e => .inl e⟩
theorem upd_mono {Z H : Hp} (s : Same Z H) : Same (upd Z p o) (upd H p o) := fun a u e => by
  by_cases c : a = p
  · subst c; rw [upd_same] at e ⊢; exact e
  · rw [upd_ne c] at e ⊢; exact s a u e
theorem same_upd {Z : Hp} (hp : Z p = none) : Same Z (upd Z p o) := fun a u e => by rw [upd_ne (ne_of_none e hp)]; exact e
theorem same_none {Z H : Hp} (s : Same Z H) (hp : H p = none) : Z p = none := s.free hp
/-- a new thing, frozen -/
theorem Grow.allocZ (g : Grow M Z H Z1 H1) (hp : H1 p = none) : Grow M Z H (upd Z1 p o) (upd H1 p o) :=
  g.trans ⟨same_upd (g.zh.free hp), fun a u _ e => by rw [upd_ne (ne_of_none e hp)]; exact e, fun a u e => ⟨u, by rw [upd_ne (ne_of_none e hp)]; exact e⟩, upd_mono g.zh, fun a u e => by
    by_cases c : a = p
    · subst c; exact .inr hp
    · rw [upd_ne c] at e; exact .inl e⟩
/-- one of ours is changed -/
theorem Grow.mut (g : Grow M Z H Z1 H1) (hl : H l = none ∨ M l) (hz : Z1 l = none) (he : H1 l = some u) : Grow M Z H Z1 (upd H1 l o) :=
  ⟨g.z, fun a v m e => by
    have : a ≠ l := by
      rintro rfl
      rcases hl with q | q
      · rw [q] at e; cases e
      · exact m q
    rw [upd_ne this]; exact g.h a v m e, fun a v e => by
    by_cases c : a = l
    · subst c; exact ⟨o, upd_same⟩
    · obtain ⟨v', e'⟩ := g.dom a v e
      exact ⟨v', by rw [upd_ne c]; exact e'⟩, fun a v e => by rw [upd_ne (ne_of_none e hz)]; exact g.zh a v e, g.new⟩
/-- one of ours is frozen -/
theorem Grow.freeze (g : Grow M Z H Z1 H1) (hl : H l = none) (hz : Z1 l = none) (he : H1 l = some u) : Grow M Z H (upd Z1 l u) H1 :=
  ⟨g.z.trans (same_upd hz), g.h, g.dom, fun a v e => by
    by_cases c : a = l
    · subst c; rw [upd_same] at e; rw [he]; exact e
    · rw [upd_ne c] at e; exact g.zh a v e, fun a v e => by
    by_cases c : a = l
    · subst c; exact .inr hl
    · rw [upd_ne c] at e; exact g.new a v e⟩
theorem Grow.keepZ (g : Grow M Z H Z1 H1) (hz : Z l = none) (he : H l = some u) : Z1 l = none := by
  cases q : Z1 l with
  | none => rfl
  | some v =>
    rcases g.new l v q with e | e
    · rw [hz] at e; cases e
    · rw [he] at e; cases e
theorem Grow.keepZn (g : Grow M Z H Z1 H1) (he : H l = some u) (hz : Z l = none) : Z1 l = none := g.keepZ hz he
theorem Gr.keepH (g : Gr Z H Z1 H1) (he : H l = some u) : H1 l = some u := g.h l u (fun z => z) he
theorem Grow.free (g : Grow M Z H Z1 H1) (he : H1 l = none) : H l = none := by
  cases q : H l with
  | none => rfl
  | some v =>
    obtain ⟨v', e⟩ := g.dom l v q
    rw [he] at e; cases e
theorem Grow.sub (g : Grow M Z H Z1 H1) (s : Same Z1 H1 → Same Z H) : Same Z H := s g.zh
end
/-- what is wanted of a result: the answer told over the frozen part -/
def Ret (M : Addr → Prop) (Z H : Hp) (P : Hp → V → Prop) (Q : VK) : Prop := ∀ v Z' H', Grow M Z H Z' H' → P Z' v → Q v H'
/-! ### the slots of a comprehension's names -/
theorem wipe_get (σ : L2.St) (i : Nat) : ∀ vs : List Nat, (wipe σ vs)[i]? = if i ∈ vs then (σ[i]?).map (fun _ => none) else σ[i]?
  | [] => by simp [wipe]
  | v :: vs => by
    have ih := wipe_get σ i vs
    unfold wipe
    rw [List.getElem?_set, ih, wipe_length]
    by_cases e : v = i
    · subst e
      rw [if_pos rfl, if_pos List.mem_cons_self]
      by_cases h : v < σ.length
      · rw [if_pos h, List.getElem?_eq_getElem h]; rfl
      · rw [if_neg h, List.getElem?_eq_none (by omega)]; rfl
    · rw [if_neg e]
      have : (i ∈ v :: vs) ↔ i ∈ vs := by
        rw [List.mem_cons]
        exact ⟨fun h => h.elim (fun h => absurd h.symm e) id, .inr⟩
      by_cases c : i ∈ vs
      · rw [if_pos c, if_pos (this.mpr c)]
      · rw [if_neg c, if_neg (fun z => c (this.mp z))]
theorem wipe_of {σ σ' : L2.St} {vs : List Nat} (hl : σ'.length = σ.length) (h : ∀ i, i ∉ vs → σ'[i]? = σ[i]?) : wipe σ' vs = wipe σ vs := by
  refine List.ext_getElem? fun i => ?_
  rw [wipe_get, wipe_get]
  by_cases c : i ∈ vs
  · rw [if_pos c, if_pos c]
    by_cases q : i < σ.length
    · rw [List.getElem?_eq_getElem q, List.getElem?_eq_getElem (by omega)]; rfl
    · rw [List.getElem?_eq_none (by omega), List.getElem?_eq_none (by omega)]
  · rw [if_neg c, if_neg c]; exact h i c
theorem wipe_set1 {σ : L2.St} {vs : List Nat} {s : Nat} {v : Option V} (hs : s ∈ vs) : wipe ((wipe σ vs).set s v) vs = wipe σ vs :=
  wipe_of (by rw [List.length_set, wipe_length]) fun i hi => by
    rw [List.getElem?_set_ne (fun e => hi (by rw [← e]; exact hs)), wipe_get, if_neg hi]
theorem wipe_set2 {σ : L2.St} {vs : List Nat} {s t : Nat} {v w : Option V} (hs : s ∈ vs) (ht : t ∈ vs) : wipe (((wipe σ vs).set s v).set t w) vs = wipe σ vs :=
  wipe_of (by rw [List.length_set, List.length_set, wipe_length]) fun i hi => by
    rw [List.getElem?_set_ne (fun e => hi (by rw [← e]; exact ht)), List.getElem?_set_ne (fun e => hi (by rw [← e]; exact hs)), wipe_get, if_neg hi]

/-! ### list comprehensions -/
section
variable {α β : Type} {M : Addr → Prop} {I : Hp → Prop} {q : Rep β} [Mono q] {Z H : Hp} {σ : L2.St} {g : TG} {tt : TT} {te : TE} {vs : List Nat} {Q : VK}
/-- what is tracked beside (I) does not hang on things outside of M -/
structure Side (M : Addr → Prop) (I : Hp → Prop) : Prop where
  put : ∀ H p o, ¬ M p → I H → I (upd H p o)
theorem Side.no : Side M (fun _ => True) := ⟨fun _ _ _ _ _ => True.intro⟩
theorem comp_it {J : It} {n : Nat} {G : Hp → Prop} {Y : Nat → Hp → V → Hp → Prop} (w : Walk J n G Y) (Jv : Nat → List β → Prop) (sub : Same Z H) (hn : n ≤ 1000000) (hM : ∀ a, M a → ∃ o, H a = some o) (sd : Side M I) (hI : I H)
    (hG : ∀ Z1 H1, Grow M Z H Z1 H1 → G H1) (j0 : Jv 0 [])
    (body : ∀ i x Z1 H1 H2 ys (R : VK) (R0 : Hp → Prop), i < n → Grow M Z H Z1 H1 → I H1 → Jv i ys → Y i H1 x H2 → (∀ y y' Z5 H5, Grow M Z1 H1 Z5 H5 → I H5 → q Z5 y y' → Jv (i + 1) (ys ++ [y']) → R y H5) →
      (∀ Z5 H5, Grow M Z1 H1 Z5 H5 → I H5 → Jv (i + 1) ys → R0 H5) → g x (wipe σ vs) H2 fun σ2 H3 => wipe σ2 vs = wipe σ vs ∧ tt σ2 H3 fun b H4 => if b = true then te σ2 H4 R else R0 H4)
    (fin : ∀ v Z' H' ys, Grow M Z H Z' H' → I H' → isL q Z' v ys → Jv n ys → Q v H') :
    ∀ D, H D = none → ∃ W : Nat → Nat → Hp → Prop, (∃ m, W 0 m (upd H D (.lst []))) ∧ ∀ i m H, W i m H →
      (J.stop i H ∧ Q (.ref D) H) ∨ (J.go i H ∧ ∃ Nx : Hp → Prop, (∀ H', Nx H' → ∃ m', m' < m ∧ W (i + 1) m' H') ∧ ∀ x H', J.yld i H x H' → g x (wipe σ vs) H' fun σ2 H2 => wipe σ2 vs = wipe σ vs ∧ tt σ2 H2 fun b H3 =>
        if b = true then te σ2 H3 fun y H4 => ∃ acc, H4 D = some (.lst acc) ∧ acc.length < sizeLine ∧ Nx (upd H4 D (.lst (acc ++ [y]))) else Nx H3) := by
  intro D hD
  have nM : ¬ M D := fun z => by obtain ⟨o, e⟩ := hM D z; rw [hD] at e; cases e
  refine ⟨fun i m Hc => m = n - i ∧ i ≤ n ∧ ∃ Z1 ys acc, Grow M Z H Z1 Hc ∧ I Hc ∧ Z1 D = none ∧ Hc D = some (.lst acc) ∧ Paired (q Z1) acc ys ∧ ys.length ≤ i ∧ Jv i ys, ⟨n, rfl, Nat.zero_le _, Z, [], [], (Grow.refl sub).alloc hD, sd.put _ _ _ nM hI, sub.free hD, upd_same, .nil, Nat.le_refl _, j0⟩, ?_⟩
  rintro i m Hc ⟨rfl, hi, Z1, ys, acc, gr, hI1, hz, hd, pr, hl, j⟩
  by_cases hlt : i < n
  · refine .inr ⟨w.goes i Hc hlt (hG _ _ gr), fun H' => i + 1 ≤ n ∧ ∃ Z1 ys acc, Grow M Z H Z1 H' ∧ I H' ∧ Z1 D = none ∧ H' D = some (.lst acc) ∧ Paired (q Z1) acc ys ∧ ys.length ≤ i + 1 ∧ Jv (i + 1) ys, fun H' h => ⟨n - (i + 1), by omega, rfl, h.1, h.2⟩, fun x H' y => ?_⟩
    refine body i x Z1 Hc H' ys _ _ hlt gr hI1 j (w.yields i Hc x H' hlt (hG _ _ gr) y) (fun y y' Z5 H5 g5 i5 q5 j5 => ?_) (fun Z5 H5 g5 i5 j5 => ?_)
    · have hd5 := g5.h D _ nM hd
      have hz5 := g5.keepZ hz hd
      refine ⟨acc, hd5, Nat.lt_of_le_of_lt (by rw [Paired.length pr]; omega : acc.length ≤ 1000000) (by decide), hlt, Z5, ys ++ [y'], acc ++ [y], (gr.trans g5).mut (.inl hD) hz5 hd5, sd.put _ _ _ nM i5, hz5, upd_same, Paired.snoc (Paired.mapP pr fun _ _ r => Mono.mono g5.z r) q5, by rw [List.length_append]; exact Nat.succ_le_succ hl, j5⟩
    · exact ⟨hlt, Z5, ys, acc, gr.trans g5, i5, g5.keepZ hz hd, g5.h D _ nM hd, Paired.mapP pr fun _ _ r => Mono.mono g5.z r, by omega, j5⟩
  · have e : i = n := by omega
    subst e
    refine .inl ⟨w.stops Hc (hG _ _ gr), fin _ _ _ ys (gr.freeze (l := D) hD hz hd) hI1 ⟨D, acc, rfl, upd_same, Paired.mapP pr fun _ _ r => Mono.mono (same_upd hz) r⟩ j⟩
end
end K87

set_option autoImplicit true
set_option Elab.async false
set_option linter.all false
set_option maxRecDepth 100000
set_option maxHeartbeats 4000000
/-! K87Loops: comprehensions and loops over lists, ranges, texts, tuples, enumerate; dict comprehensions. -/
namespace K87
open PySem L2 PySem.Spec PyProof.Rows

/-- the part of a comprehension's reading behind its source -/
def lcTail (g : TG) (tt : TT) (te : TE) (vs : List Nat) (σ : L2.St) (Q : VK) (J : It) (H : Hp) : Prop :=
  ∀ D, H D = none → ∃ W : Nat → Nat → Hp → Prop, (∃ m, W 0 m (upd H D (.lst []))) ∧ ∀ i m H, W i m H →
      (J.stop i H ∧ Q (.ref D) H) ∨ (J.go i H ∧ ∃ Nx : Hp → Prop, (∀ H', Nx H' → ∃ m', m' < m ∧ W (i + 1) m' H') ∧ ∀ x H', J.yld i H x H' → g x (wipe σ vs) H' fun σ2 H2 => wipe σ2 vs = wipe σ vs ∧ tt σ2 H2 fun b H3 =>
        if b = true then te σ2 H3 fun y H4 => ∃ acc, H4 D = some (.lst acc) ∧ acc.length < sizeLine ∧ Nx (upd H4 D (.lst (acc ++ [y]))) else Nx H3)
/-! what a comprehension, a loop asks of its source's value -/
section
variable (K : PySem.W.Frag) (g : TG) (tt : TT) (te tk tv : TE) (vs : List Nat) (σ : L2.St) (Q : VK)
def LcL (v : V) (H : Hp) : Prop := ∃ a, v = .ref a ∧ (∃ ys, SqL K H a ys) ∧ lcTail g tt te vs σ Q (Itl K a) H
def LcT (v : V) (H : Hp) : Prop := ∃ a, v = .ref a ∧ (∃ ys, SqT K H a ys) ∧ lcTail g tt te vs σ Q (Itt K a) H
def LcR (us : List V) (H : Hp) : Prop := ∃ j : Int, us = [.int j] ∧ -(2 ^ 62) ≤ j ∧ j < 2 ^ 62 ∧ lcTail g tt te vs σ Q (Itr 0 j.toNat) H
def LcS (v : V) (H : Hp) : Prop := ∃ x, v = .str x ∧ lcTail g tt te vs σ Q (Its x) H
def LcE (us : List V) (H : Hp) : Prop := ∃ a ys, us = [.ref a] ∧ SqL K H a ys ∧ lcTail g tt te vs σ Q (Ite K a) H
end
section
variable {K : PySem.W.Frag} {g : TG} {tt : TT} {te : TE} {vs : List Nat} {σ : L2.St} {Q : VK} {H : Hp} {tl : TE} {ta : TE}
theorem c_list (h : tl σ H fun v H1 => LcL K g tt te vs σ Q v H1) : tLc (iList K tl) g tt te vs σ H Q := h
theorem c_tup (h : tl σ H fun v H1 => LcT K g tt te vs σ Q v H1) : tLc (iTup K tl) g tt te vs σ H Q := h
theorem c_range (h : ta σ H fun v H1 => LcR g tt te vs σ Q [v] H1) : tLc (iRng1 (tCons ta tNil)) g tt te vs σ H Q := h
theorem c_str (h : tl σ H fun v H1 => LcS g tt te vs σ Q v H1) : tLc (iStr tl) g tt te vs σ H Q := h
theorem c_enum (h : ta σ H fun v H1 => LcE K g tt te vs σ Q [v] H1) : tLc (iEnum K (tCons ta tNil)) g tt te vs σ H Q := h
end
section
variable {α β : Type} {K : PySem.W.Frag} {M : Addr → Prop} {I : Hp → Prop} {p : Rep α} [Mono p] {q : Rep β} [Mono q] {Z H : Hp} {σ : L2.St} {g : TG} {tt : TT} {te : TE} {vs : List Nat} {Q : VK} {v : V} {xs : List α} {s t : Nat}
/-- the i-th item -/
theorem YL {vs : List V} {i : Nat} {H H' : Hp} {x : V} (h : YAt vs i H x H') : H' = H ∧ vs[i]? = some x := h
/-- over a list; the state (I, M) may change with each item -/
theorem k_compL (Jv : Nat → List β → Prop) (hv : isL p Z v xs) (sub : Same Z H) (hn : xs.length ≤ 1000000) (hs : s ∈ vs) (hM : ∀ a, M a → ∃ o, H a = some o) (sd : Side M I) (hI : I H) (j0 : Jv 0 [])
    (body : ∀ (i : Nat) x w Z1 H1 ys (R : VK) (R0 : Hp → Prop), xs[i]? = some x → p Z1 w x → Grow M Z H Z1 H1 → I H1 → Jv i ys → (∀ y y' Z5 H5, Grow M Z1 H1 Z5 H5 → I H5 → q Z5 y y' → Jv (i + 1) (ys ++ [y']) → R y H5) →
      (∀ Z5 H5, Grow M Z1 H1 Z5 H5 → I H5 → Jv (i + 1) ys → R0 H5) → tt ((wipe σ vs).set s (some w)) H1 fun b H4 => if b = true then te ((wipe σ vs).set s (some w)) H4 R else R0 H4)
    (fin : ∀ v Z' H' ys, Grow M Z H Z' H' → I H' → isL q Z' v ys → Jv xs.length ys → Q v H') :
    LcL K (gName s) tt te vs σ Q v H := by
  obtain ⟨a, us, rfl, ha, pr⟩ := hv
  refine ⟨a, rfl, ⟨us, SqL.of (sub _ _ ha)⟩, ?_⟩
  have hl : us.length = xs.length := Paired.length pr
  rw [← hl] at hn fin
  refine comp_it (walk_list (K := K) (a := a) (xs := us)) Jv sub hn hM sd hI (fun Z1 H1 g1 => SqL.of (g1.zh _ _ (g1.z _ _ ha))) j0 (fun i x Z1 H1 H2 ys R R0 hi g1 i1 j hy hR hR0 => ?_) fin
  obtain ⟨rfl, hx⟩ := YL hy
  obtain ⟨x', hx', px⟩ := L2.paired_get pr hx
  exact ⟨wipe_set1 hs, body i x' x Z1 _ ys R R0 hx' (Mono.mono g1.z px) g1 i1 j hR hR0⟩
/-- a map -/
theorem k_mapL (f : α → β) (hv : isL p Z v xs) (sub : Same Z H) (hn : xs.length ≤ 1000000) (hs : s ∈ vs)
    (body : ∀ (i : Nat) x w Z1 H1 (R : VK), xs[i]? = some x → p Z1 w x → Gr Z H Z1 H1 → (∀ y Z5 H5, Gr Z1 H1 Z5 H5 → q Z5 y (f x) → R y H5) → te ((wipe σ vs).set s (some w)) H1 R)
    (fin : ∀ v Z' H', Gr Z H Z' H' → isL q Z' v (xs.map f) → Q v H') :
    LcL K (gName s) tYes te vs σ Q v H := by
  refine k_compL (M := Non) (I := fun _ => True) (q := q) (fun i ys => ys = (xs.take i).map f) hv sub hn hs (fun _ z => z.elim) Side.no True.intro (by simp) (fun i x w Z1 H1 ys R R0 hx px g1 _ j hR _ => ?_) (fun v Z' H' ys g' _ h j => fin v Z' H' g' (by rw [j, List.take_length] at h; exact h))
  show (if true = true then te _ H1 R else R0 H1)
  rw [if_pos rfl]
  refine body i x w Z1 H1 R hx px g1 fun y Z5 H5 g5 h => hR y _ Z5 H5 g5 True.intro h ?_
  obtain ⟨hl, e⟩ := List.getElem?_eq_some_iff.mp hx
  rw [j, List.take_succ, hx]; simp
/-- a map of those that a test takes -/
theorem k_filtL (c : α → Bool) (f : α → β) (hv : isL p Z v xs) (sub : Same Z H) (hn : xs.length ≤ 1000000) (hs : s ∈ vs)
    (body : ∀ (i : Nat) x w Z1 H1 (R : VK) (R0 : Hp → Prop), xs[i]? = some x → p Z1 w x → Gr Z H Z1 H1 → (c x = true → ∀ y Z5 H5, Gr Z1 H1 Z5 H5 → q Z5 y (f x) → R y H5) → (c x = false → ∀ Z5 H5, Gr Z1 H1 Z5 H5 → R0 H5) →
      tt ((wipe σ vs).set s (some w)) H1 fun b H4 => if b = true then te ((wipe σ vs).set s (some w)) H4 R else R0 H4)
    (fin : ∀ v Z' H', Gr Z H Z' H' → isL q Z' v ((xs.filter c).map f) → Q v H') :
    LcL K (gName s) tt te vs σ Q v H := by
  refine k_compL (M := Non) (I := fun _ => True) (q := q) (fun i ys => ys = ((xs.take i).filter c).map f) hv sub hn hs (fun _ z => z.elim) Side.no True.intro (by simp) (fun i x w Z1 H1 ys R R0 hx px g1 _ j hR hR0 => ?_) (fun v Z' H' ys g' _ h j => fin v Z' H' g' (by rw [j, List.take_length] at h; exact h))
  refine body i x w Z1 H1 R R0 hx px g1 (fun hc y Z5 H5 g5 h => hR y _ Z5 H5 g5 True.intro h ?_) (fun hc Z5 H5 g5 => hR0 Z5 H5 g5 True.intro ?_)
  · rw [j, List.take_succ, hx]; simp [List.filter_append, hc]
  · rw [j, List.take_succ, hx]; simp [List.filter_append, hc]
/-- over a tuple -/
theorem k_mapT (f : α → β) (hv : isT p Z v xs) (sub : Same Z H) (hn : xs.length ≤ 1000000) (hs : s ∈ vs)
    (body : ∀ (i : Nat) x w Z1 H1 (R : VK), xs[i]? = some x → p Z1 w x → Gr Z H Z1 H1 → (∀ y Z5 H5, Gr Z1 H1 Z5 H5 → q Z5 y (f x) → R y H5) → te ((wipe σ vs).set s (some w)) H1 R)
    (fin : ∀ v Z' H', Gr Z H Z' H' → isL q Z' v (xs.map f) → Q v H') :
    LcT K (gName s) tYes te vs σ Q v H := by
  obtain ⟨a, us, rfl, ha, pr⟩ := hv
  refine ⟨a, rfl, ⟨us, SqT.of (sub _ _ ha)⟩, ?_⟩
  have hl : us.length = xs.length := Paired.length pr
  refine comp_it (M := Non) (I := fun _ => True) (q := q) (walk_tup (K := K) (a := a) (xs := us)) (fun i ys => ys = (xs.take i).map f) sub (by omega) (fun _ z => z.elim) Side.no True.intro (fun Z1 H1 g1 => SqT.of (g1.zh _ _ (g1.z _ _ ha))) (by simp)
    (fun i x Z1 H1 H2 ys R R0 hi g1 _ j hy hR _ => ?_) (fun v Z' H' ys g' _ h j => fin v Z' H' g' (by rw [j, hl, List.take_length] at h; exact h))
  obtain ⟨rfl, hx⟩ := YL hy
  obtain ⟨x', hx', px⟩ := L2.paired_get pr hx
  refine ⟨wipe_set1 hs, ?_⟩
  show (if true = true then te _ H2 R else R0 H2)
  rw [if_pos rfl]
  refine body i x' x Z1 _ R hx' (Mono.mono g1.z px) g1 fun y Z5 H5 g5 h => hR y _ Z5 H5 g5 True.intro h ?_
  rw [j, List.take_succ, hx']; simp
/-- over range(n); the state may change with each item -/
theorem k_compR {n : Int} {us : List V} (Jv : Nat → List β → Prop) (hv : us = [.int n]) (sub : Same Z H) (hn : n ≤ 1000000) (hn0 : 0 ≤ n) (hs : s ∈ vs) (hM : ∀ a, M a → ∃ o, H a = some o) (sd : Side M I) (hI : I H) (j0 : Jv 0 [])
    (body : ∀ (i : Nat) Z1 H1 ys (R : VK) (R0 : Hp → Prop), (i : Int) < n → Grow M Z H Z1 H1 → I H1 → Jv i ys → (∀ y y' Z5 H5, Grow M Z1 H1 Z5 H5 → I H5 → q Z5 y y' → Jv (i + 1) (ys ++ [y']) → R y H5) →
      (∀ Z5 H5, Grow M Z1 H1 Z5 H5 → I H5 → Jv (i + 1) ys → R0 H5) → tt ((wipe σ vs).set s (some (.int (i : Int)))) H1 fun b H4 => if b = true then te ((wipe σ vs).set s (some (.int (i : Int)))) H4 R else R0 H4)
    (fin : ∀ v Z' H' ys, Grow M Z H Z' H' → I H' → isL q Z' v ys → Jv n.toNat ys → Q v H') :
    LcR (gName s) tt te vs σ Q us H := by
  refine ⟨n, hv, by omega, by omega, ?_⟩
  refine comp_it (walk_range (lo := 0) (n := n.toNat)) Jv sub (by omega) hM sd hI (fun _ _ _ => True.intro) j0 (fun i x Z1 H1 H2 ys R R0 hi g1 i1 j hy hR hR0 => ?_) fin
  obtain ⟨rfl, rfl⟩ := (show H2 = H1 ∧ x = .int (0 + (i : Int)) from hy)
  rw [Int.zero_add]
  exact ⟨wipe_set1 hs, body i Z1 _ ys R R0 (by omega) g1 i1 j hR hR0⟩
theorem k_mapR {n : Nat} {us : List V} (f : Nat → β) (hv : us = [.int (n : Int)]) (sub : Same Z H) (hn : n ≤ 1000000) (hs : s ∈ vs)
    (body : ∀ i Z1 H1 (R : VK), i < n → Gr Z H Z1 H1 → (∀ y Z5 H5, Gr Z1 H1 Z5 H5 → q Z5 y (f i) → R y H5) → te ((wipe σ vs).set s (some (.int (i : Int)))) H1 R)
    (fin : ∀ v Z' H', Gr Z H Z' H' → isL q Z' v ((List.range n).map f) → Q v H') :
    LcR (gName s) tYes te vs σ Q us H := by
  refine k_compR (M := Non) (I := fun _ => True) (q := q) (fun i ys => ys = (List.range i).map f) hv sub (by omega) (by omega) hs (fun _ z => z.elim) Side.no True.intro (by simp) (fun i Z1 H1 ys R R0 hi g1 _ j hR _ => ?_)
    (fun v Z' H' ys g' _ h j => fin v Z' H' g' (by rw [j] at h; exact h))
  show (if true = true then te _ H1 R else R0 H1)
  rw [if_pos rfl]
  refine body i Z1 H1 R (by omega) g1 fun y Z5 H5 g5 h => hR y _ Z5 H5 g5 True.intro h ?_
  rw [j, List.range_succ, List.map_append]; rfl
/-- over a text's signs -/
theorem k_compS {z : Str} (Jv : Nat → List β → Prop) (hv : v = .str z) (sub : Same Z H) (hn : z.cps.toList.length ≤ 1000000) (hs : s ∈ vs) (hM : ∀ a, M a → ∃ o, H a = some o) (sd : Side M I) (hI : I H) (j0 : Jv 0 [])
    (body : ∀ (i : Nat) c Z1 H1 ys (R : VK) (R0 : Hp → Prop), z.cps.toList[i]? = some c → Grow M Z H Z1 H1 → I H1 → Jv i ys → (∀ y y' Z5 H5, Grow M Z1 H1 Z5 H5 → I H5 → q Z5 y y' → Jv (i + 1) (ys ++ [y']) → R y H5) →
      (∀ Z5 H5, Grow M Z1 H1 Z5 H5 → I H5 → Jv (i + 1) ys → R0 H5) → tt ((wipe σ vs).set s (some (.str ⟨#[c]⟩))) H1 fun b H4 => if b = true then te ((wipe σ vs).set s (some (.str ⟨#[c]⟩))) H4 R else R0 H4)
    (fin : ∀ v Z' H' ys, Grow M Z H Z' H' → I H' → isL q Z' v ys → Jv z.cps.toList.length ys → Q v H') :
    LcS (gName s) tt te vs σ Q v H := by
  refine ⟨z, hv, ?_⟩
  refine comp_it (walk_str (z := z)) Jv sub (by simpa using hn) hM sd hI (fun _ _ _ => True.intro) j0 (fun i x Z1 H1 H2 ys R R0 hi g1 i1 j hy hR hR0 => ?_) (by simpa using fin)
  obtain ⟨rfl, c, hc, rfl⟩ := hy
  exact ⟨wipe_set1 hs, body i c Z1 _ ys R R0 (by simpa using hc) g1 i1 j hR hR0⟩
theorem k_mapS {z : Str} (f : Nat → β) (hv : v = .str z) (sub : Same Z H) (hn : z.cps.toList.length ≤ 1000000) (hs : s ∈ vs)
    (body : ∀ (i : Nat) c Z1 H1 (R : VK), z.cps.toList[i]? = some c → Gr Z H Z1 H1 → (∀ y Z5 H5, Gr Z1 H1 Z5 H5 → q Z5 y (f c) → R y H5) → te ((wipe σ vs).set s (some (.str ⟨#[c]⟩))) H1 R)
    (fin : ∀ v Z' H', Gr Z H Z' H' → isL q Z' v (z.cps.toList.map f) → Q v H') :
    LcS (gName s) tYes te vs σ Q v H := by
  refine k_compS (M := Non) (I := fun _ => True) (q := q) (fun i ys => ys = (z.cps.toList.take i).map f) hv sub hn hs (fun _ z => z.elim) Side.no True.intro (by simp) (fun i c Z1 H1 ys R R0 hc g1 _ j hR _ => ?_)
    (fun v Z' H' ys g' _ h j => fin v Z' H' g' (by rw [j, List.take_length] at h; exact h))
  show (if true = true then te _ H1 R else R0 H1)
  rw [if_pos rfl]
  refine body i c Z1 H1 R hc g1 fun y Z5 H5 g5 h => hR y _ Z5 H5 g5 True.intro h ?_
  rw [j, List.take_succ, hc]; simp
/-- over enumerate(list), its two names at s and t -/
theorem k_mapE {us : List V} (f : Nat → α → β) (hv : us = [v]) (hl : isL p Z v xs) (sub : Same Z H) (hn : xs.length ≤ 1000000) (hs : s ∈ vs) (ht : t ∈ vs)
    (body : ∀ (i : Nat) x w Z1 H1 (R : VK), xs[i]? = some x → p Z1 w x → Gr Z H Z1 H1 → (∀ y Z5 H5, Gr Z1 H1 Z5 H5 → q Z5 y (f i x) → R y H5) → te (((wipe σ vs).set s (some (.int (i : Int)))).set t (some w)) H1 R)
    (fin : ∀ v Z' H', Gr Z H Z' H' → isL q Z' v (xs.mapIdx f) → Q v H') :
    LcE K (gTup K 2 (gCons (gName s) (gCons (gName t) gNil))) tYes te vs σ Q us H := by
  obtain ⟨a, us, rfl, ha, pr⟩ := hl
  refine ⟨a, us, hv, SqL.of (sub _ _ ha), ?_⟩
  have hl : us.length = xs.length := Paired.length pr
  refine comp_it (M := Non) (I := fun _ => True) (q := q) (walk_enum (K := K) (a := a) (xs := us)) (fun i ys => ys = (xs.take i).mapIdx f) sub (by omega) (fun _ z => z.elim) Side.no True.intro (fun Z1 H1 g1 => SqL.of (g1.zh _ _ (g1.z _ _ ha))) (by simp)
    (fun i x Z1 H1 H2 ys R R0 hi g1 _ j hy hR _ => ?_) (fun v Z' H' ys g' _ h j => fin v Z' H' g' (by rw [j, hl, List.take_length] at h; exact h))
  obtain ⟨T, x1, x2, rfl, hT, rfl, h1, h2⟩ := hy
  cases h1
  obtain ⟨x', hx', px⟩ := L2.paired_get pr h2
  have gT : Gr Z1 H1 Z1 (upd H1 T (.tup [.int (i : Nat), x2])) := (Grow.refl g1.zh).alloc hT
  refine ⟨T, _, rfl, SqT.of upd_same, rfl, _, _, rfl, _, _, rfl, rfl, wipe_set2 hs ht, ?_⟩
  show (if true = true then te _ (upd H1 T (.tup [.int (i : Nat), x2])) R else R0 (upd H1 T (.tup [.int (i : Nat), x2])))
  rw [if_pos rfl]
  refine body i x' x2 Z1 _ R hx' (Mono.mono g1.z px) (g1.trans gT) fun y Z5 H5 g5 h => hR y _ Z5 H5 (gT.trans g5) True.intro h ?_
  obtain ⟨hl', e⟩ := List.getElem?_eq_some_iff.mp hx'
  have e1 : xs.take (i + 1) = xs.take i ++ [x'] := by rw [List.take_succ, hx']; rfl
  rw [j, e1, List.mapIdx_append]
  simp [List.length_take, Nat.min_eq_left (Nat.le_of_lt hl')]
end

/-! ### dict comprehensions -/
def dcTail (E0 : HO) (St : Sto) (g : TG) (tt : TT) (tk tv : TE) (vs : List Nat) (σ : L2.St) (Q : VK) (J : It) (H : Hp) : Prop :=
  ∀ D, H D = none → ∃ W : Nat → Nat → Hp → Prop, (∃ m, W 0 m (upd H D E0)) ∧ ∀ i m H, W i m H →
      (J.stop i H ∧ Q (.ref D) H) ∨ (J.go i H ∧ ∃ Nx : Hp → Prop, (∀ H', Nx H' → ∃ m', m' < m ∧ W (i + 1) m' H') ∧ ∀ x H', J.yld i H x H' → g x (wipe σ vs) H' fun σ2 H2 => wipe σ2 vs = wipe σ vs ∧ tt σ2 H2 fun b H3 =>
        if b = true then tk σ2 H3 fun y H4 => tv σ2 H4 fun z H5 => St D y z H5 Nx else Nx H3)
/-- int and text keys -/
def stoK : Sto := fun D y z H N => ∃ kvs k, y = kV k ∧ H D = some (.dK kvs) ∧ kvs.length < sizeLine ∧ N (upd H D (.dK (putK kvs k z)))
section
variable {α : Type} {K : PySem.W.Frag} {p : Rep α} [Mono p] {Z H : Hp} {σ : L2.St} {g : TG} {tt : TT} {tk tv : TE} {vs : List Nat} {Q : VK} {v : V} {xs : List α} {s t : Nat} {E0 : HO} {St : Sto}
theorem dcomp_it {J : It} {n : Nat} {G : Hp → Prop} {Y : Nat → Hp → V → Hp → Prop} (w : Walk J n G Y) (Dv : Nat → HO → Prop) (sub : Same Z H) (hG : ∀ Z1 H1, Gr Z H Z1 H1 → G H1) (d0 : Dv 0 E0)
    (body : ∀ i x Z1 H1 H2 D o (R : V → V → Hp → Prop) (R0 : Hp → Prop), i < n → Gr Z H Z1 H1 → H1 D = some o → Z1 D = none → Dv i o → Y i H1 x H2 →
      (∀ y z Z5 H5, Gr Z1 H1 Z5 H5 → (∀ N : Hp → Prop, (∀ o', Dv (i + 1) o' → N (upd H5 D o')) → St D y z H5 N) → R y z H5) →
      (∀ Z5 H5, Gr Z1 H1 Z5 H5 → Dv (i + 1) o → R0 H5) → g x (wipe σ vs) H2 fun σ2 H3 => wipe σ2 vs = wipe σ vs ∧ tt σ2 H3 fun b H4 => if b = true then tk σ2 H4 (fun y H5 => tv σ2 H5 fun z H6 => R y z H6) else R0 H4)
    (fin : ∀ D Z' H' o, Gr Z H Z' H' → H D = none → Z' D = none → H' D = some o → Dv n o → Q (.ref D) H') : dcTail E0 St g tt tk tv vs σ Q J H := by
  intro D hD
  refine ⟨fun i m Hc => m = n - i ∧ i ≤ n ∧ ∃ Z1 o, Gr Z H Z1 Hc ∧ Z1 D = none ∧ Hc D = some o ∧ Dv i o, ⟨n, rfl, Nat.zero_le _, Z, _, (Grow.refl sub).alloc hD, sub.free hD, upd_same, d0⟩, ?_⟩
  rintro i m Hc ⟨rfl, hi, Z1, o, gr, hz, hd, dv⟩
  by_cases hlt : i < n
  · refine .inr ⟨w.goes i Hc hlt (hG _ _ gr), fun H' => i + 1 ≤ n ∧ ∃ Z1 o, Gr Z H Z1 H' ∧ Z1 D = none ∧ H' D = some o ∧ Dv (i + 1) o, fun H' h => ⟨n - (i + 1), by omega, rfl, h.1, h.2⟩, fun x H' y => ?_⟩
    refine body i x Z1 Hc H' D o _ _ hlt gr hd hz dv (w.yields i Hc x H' hlt (hG _ _ gr) y) (fun y z Z5 H5 g5 hS => hS _ fun o' d' => ?_) (fun Z5 H5 g5 d' => ?_)
    · exact ⟨hlt, Z5, o', (gr.trans g5).mut (.inl hD) (g5.keepZ hz hd) (g5.keepH hd), g5.keepZ hz hd, upd_same, d'⟩
    · exact ⟨hlt, Z5, o, gr.trans g5, g5.keepZ hz hd, g5.keepH hd, d'⟩
  · have e : i = n := by omega
    subst e
    exact .inl ⟨w.stops Hc (hG _ _ gr), fin D Z1 Hc o gr hD hz hd dv⟩
end

/-! ### for loops: the reading behind the source -/
def forTail (g : TG) (tb : TS) (D : Ends) (σ : L2.St) (J : It) (H : Hp) : Prop :=
  ∃ W : Nat → Nat → L2.St → Hp → Prop, (∃ m, W 0 m σ H) ∧ ∀ i m σ H, W i m σ H →
      (J.stop i H ∧ D.nx σ H) ∨ (J.go i H ∧ ∃ N : L2.St → Hp → Prop, (∀ σ' H', N σ' H' → ∃ m', m' < m ∧ W (i + 1) m' σ' H') ∧ ∀ x H', J.yld i H x H' → g x σ H' fun σ2 H2 => tb { D with nx := N, ct := N, bk := D.nx } σ2 H2)
section
variable (K : PySem.W.Frag) (g : TG) (tb : TS) (D : Ends) (σ : L2.St)
def ForL (v : V) (H : Hp) : Prop := ∃ a, v = .ref a ∧ (∃ ys, SqL K H a ys) ∧ forTail g tb D σ (Itl K a) H
def ForT (v : V) (H : Hp) : Prop := ∃ a, v = .ref a ∧ (∃ ys, SqT K H a ys) ∧ forTail g tb D σ (Itt K a) H
def ForE (us : List V) (H : Hp) : Prop := ∃ a ys, us = [.ref a] ∧ SqL K H a ys ∧ forTail g tb D σ (Ite K a) H
def ForR (us : List V) (H : Hp) : Prop := ∃ j : Int, us = [.int j] ∧ -(2 ^ 62) ≤ j ∧ j < 2 ^ 62 ∧ forTail g tb D σ (Itr 0 j.toNat) H
def ForS (v : V) (H : Hp) : Prop := ∃ x, v = .str x ∧ forTail g tb D σ (Its x) H
end
section
variable {K : PySem.W.Frag} {g : TG} {tb : TS} {D : Ends} {σ : L2.St} {H : Hp} {tl ta : TE}
theorem f_list (h : tl σ H fun v H1 => ForL K g tb D σ v H1) : tFor (iList K tl) g tb D σ H := h
theorem f_tup (h : tl σ H fun v H1 => ForT K g tb D σ v H1) : tFor (iTup K tl) g tb D σ H := h
theorem f_enum (h : ta σ H fun v H1 => ForE K g tb D σ [v] H1) : tFor (iEnum K (tCons ta tNil)) g tb D σ H := h
theorem f_range (h : ta σ H fun v H1 => ForR g tb D σ [v] H1) : tFor (iRng1 (tCons ta tNil)) g tb D σ H := h
theorem f_str (h : tl σ H fun v H1 => ForS g tb D σ v H1) : tFor (iStr tl) g tb D σ H := h
end
section
variable {α : Type} {K : PySem.W.Frag} {p : Rep α} [Mono p] {Z H : Hp} {σ : L2.St} {g : TG} {tb : TS} {D : Ends} {v : V} {xs : List α} {s t : Nat}
theorem k_forL (hv : isL p Z v xs) (Pv : Nat → L2.St → Hp → Prop) (h0 : Pv 0 σ H) (hZ : ∀ i σ H, Pv i σ H → Same Z H)
    (hs : ∀ (i : Nat) x w σ' H', xs[i]? = some x → p Z w x → Pv i σ' H' → g w σ' H' fun σ2 H2 => tb { D with nx := Pv (i + 1), ct := Pv (i + 1), bk := D.nx } σ2 H2) (hd : ∀ σ' H', Pv xs.length σ' H' → D.nx σ' H') :
    ForL K g tb D σ v H := by
  obtain ⟨a, us, rfl, ha, pr⟩ := hv
  refine ⟨a, rfl, ⟨us, SqL.of (hZ 0 σ H h0 _ _ ha)⟩, ?_⟩
  have hl : us.length = xs.length := Paired.length pr
  refine for_it (walk_list (K := K) (a := a) (xs := us)) Pv h0 (fun i σ H _ h => SqL.of (hZ i σ H h _ _ ha)) (fun i x σ' H' H2 hi h hy => ?_) (by rw [hl]; exact hd)
  obtain ⟨rfl, hx⟩ := YL hy
  obtain ⟨x', hx', px⟩ := L2.paired_get pr hx
  exact hs i x' x σ' _ hx' px h
theorem k_forT (hv : isT p Z v xs) (Pv : Nat → L2.St → Hp → Prop) (h0 : Pv 0 σ H) (hZ : ∀ i σ H, Pv i σ H → Same Z H)
    (hs : ∀ (i : Nat) x w σ' H', xs[i]? = some x → p Z w x → Pv i σ' H' → g w σ' H' fun σ2 H2 => tb { D with nx := Pv (i + 1), ct := Pv (i + 1), bk := D.nx } σ2 H2) (hd : ∀ σ' H', Pv xs.length σ' H' → D.nx σ' H') :
    ForT K g tb D σ v H := by
  obtain ⟨a, us, rfl, ha, pr⟩ := hv
  refine ⟨a, rfl, ⟨us, SqT.of (hZ 0 σ H h0 _ _ ha)⟩, ?_⟩
  have hl : us.length = xs.length := Paired.length pr
  refine for_it (walk_tup (K := K) (a := a) (xs := us)) Pv h0 (fun i σ H _ h => SqT.of (hZ i σ H h _ _ ha)) (fun i x σ' H' H2 hi h hy => ?_) (by rw [hl]; exact hd)
  obtain ⟨rfl, hx⟩ := YL hy
  obtain ⟨x', hx', px⟩ := L2.paired_get pr hx
  exact hs i x' x σ' _ hx' px h
theorem k_forE {us : List V} (hu : us = [v]) (hv : isL p Z v xs) (Pv : Nat → L2.St → Hp → Prop) (h0 : Pv 0 σ H) (hZ : ∀ i σ H, Pv i σ H → Same Z H)
    (hs : ∀ (i : Nat) x w σ' H' T, xs[i]? = some x → p Z w x → Pv i σ' H' → H' T = none → tb { D with nx := Pv (i + 1), ct := Pv (i + 1), bk := D.nx } ((σ'.set s (some (.int (i : Int)))).set t (some w)) (upd H' T (.tup [.int (i : Int), w]))) (hd : ∀ σ' H', Pv xs.length σ' H' → D.nx σ' H') :
    ForE K (gTup K 2 (gCons (gName s) (gCons (gName t) gNil))) tb D σ us H := by
  obtain ⟨a, ws, rfl, ha, pr⟩ := hv
  refine ⟨a, ws, hu, SqL.of (hZ 0 σ H h0 _ _ ha), ?_⟩
  have hl : ws.length = xs.length := Paired.length pr
  refine for_it (walk_enum (K := K) (a := a) (xs := ws)) Pv h0 (fun i σ H _ h => SqL.of (hZ i σ H h _ _ ha)) (fun i x σ' H' H2 hi h hy => ?_) (by rw [hl]; exact hd)
  obtain ⟨T, x1, x2, rfl, hT, rfl, h1, h2⟩ := hy
  cases h1
  obtain ⟨x', hx', px⟩ := L2.paired_get pr h2
  exact ⟨T, _, rfl, SqT.of upd_same, rfl, _, _, rfl, _, _, rfl, rfl, hs i x' x2 σ' H' T hx' px h hT⟩
theorem k_forR {n : Int} {us : List V} (hu : us = [.int n]) (hn0 : 0 ≤ n) (hn : n ≤ 1000000) (Pv : Nat → L2.St → Hp → Prop) (h0 : Pv 0 σ H)
    (hs : ∀ (i : Nat) σ' H', (i : Int) < n → Pv i σ' H' → tb { D with nx := Pv (i + 1), ct := Pv (i + 1), bk := D.nx } (σ'.set s (some (.int (i : Int)))) H') (hd : ∀ σ' H', Pv n.toNat σ' H' → D.nx σ' H') :
    ForR (gName s) tb D σ us H := by
  refine ⟨n, hu, by omega, by omega, ?_⟩
  refine for_it (walk_range (lo := 0) (n := n.toNat)) Pv h0 (fun _ _ _ _ _ => True.intro) (fun i x σ' H' H2 hi h hy => ?_) hd
  obtain ⟨rfl, rfl⟩ := (show H2 = H' ∧ x = .int (0 + (i : Int)) from hy)
  rw [Int.zero_add]
  exact hs i σ' _ (by omega) h
theorem k_forS {z : Str} (hv : v = .str z) (Pv : Nat → L2.St → Hp → Prop) (h0 : Pv 0 σ H)
    (hs : ∀ (i : Nat) c σ' H', z.cps.toList[i]? = some c → Pv i σ' H' → tb { D with nx := Pv (i + 1), ct := Pv (i + 1), bk := D.nx } (σ'.set s (some (.str ⟨#[c]⟩))) H') (hd : ∀ σ' H', Pv z.cps.toList.length σ' H' → D.nx σ' H') :
    ForS (gName s) tb D σ v H := by
  refine ⟨z, hv, ?_⟩
  refine for_it (walk_str (z := z)) Pv h0 (fun _ _ _ _ _ => True.intro) (fun i x σ' H' H2 hi h hy => ?_) (by simpa using hd)
  obtain ⟨rfl, c, hc, rfl⟩ := hy
  exact hs i c σ' _ (by simpa using hc) h
end
end K87

set_option autoImplicit true
set_option Elab.async false
set_option linter.all false
set_option maxRecDepth 100000
set_option maxHeartbeats 4000000
/-! K87Txt: what the top has written: where each def, class and constant stands. -/
namespace K87
open PySem L2 PySem.Spec PyProof.Rows

def top (i : Nat) : Stmt := PySem.Challenge.pw_foreaft_k87_whole_counts_and_preimages.main.body.getD i (.Pass ⟨0, 0, 0, 0⟩)
/-! ### the rules whose reading names the written part: the same, it being named by a letter -/
section
variable {X : Cx} (K : PySem.W.Frag) (hK : X.K = K)
include hK
theorem ix_listK : IxR X (rIxL K) := by subst hK; exact ix_list
theorem ix_tupK : IxR X (rIxT K) := by subst hK; exact ix_tup
theorem op_in_seqK : OpR X (compareOp .In) (rIn K false) := by subst hK; exact op_in_seq
theorem op_notIn_seqK : OpR X (compareOp .NotIn) (rIn K true) := by subst hK; exact op_notIn_seq
def rLenQ (K : PySem.W.Frag) : List V → Hp → VK → Prop := fun xs H Q => ∃ p ys, xs = [.ref p] ∧ (SqL K H p ys ∨ SqT K H p ys) ∧ Q (.int ys.length) H
theorem call_len_seqK : CallR X (.builtin "len") (rLenQ K) := by subst hK; exact call_len_seq
def rListOf (K : PySem.W.Frag) : List V → Hp → VK → Prop := fun xs H Q => ∃ p ys, xs = [.ref p] ∧ (SqL K H p ys ∨ SqT K H p ys) ∧ ∀ l, H l = none → Q (.ref l) (upd H l (.lst ys))
theorem call_list_ofK : CallR X (.type "list") (rListOf K) := by subst hK; exact call_list_of
def rTupOf (K : PySem.W.Frag) : List V → Hp → VK → Prop := fun xs H Q => ∃ p ys, xs = [.ref p] ∧ ((SqL K H p ys ∧ ∀ l, H l = none → Q (.ref l) (upd H l (.tup ys))) ∨ (SqT K H p ys ∧ Q (.ref p) H))
theorem call_tuple_ofK : CallR X (.type "tuple") (rTupOf K) := by subst hK; exact call_tuple_of
theorem cr_sumK (hc : X.calm = true) : CallR X (.builtin "sum") (rSum K) := by subst hK; exact cr_sum hc
theorem cr_maxK (hc : X.calm = true) : CallR X (.builtin "max") (rMax K) := by subst hK; exact cr_max hc
theorem cr_anyK (hc : X.calm = true) : CallR X (.builtin "any") (rAny K) := by subst hK; exact cr_any hc
theorem cr_allK (hc : X.calm = true) : CallR X (.builtin "all") (rAll K) := by subst hK; exact cr_all hc
theorem call_isiK2 : CallR X (.builtin "isinstance") (rIsi K) := by subst hK; exact call_isi
theorem op_catAK : OpR X (binaryOp .Add) (rCatA K) := by subst hK; exact op_catA
theorem sl_listK : SlR X (rSlL K) := by subst hK; exact sl_list
theorem mt_indexK : MtR X "list.index" (rIndex K) := by subst hK; exact mt_index
theorem pi_listK {tg l : Expr} {tl : TE} (hl : PE X l tl) : PI X tg l (iList K tl) := by subst hK; exact pi_list hl
theorem pi_tupK {tg l : Expr} {tl : TE} (hl : PE X l tl) : PI X tg l (iTup K tl) := by subst hK; exact pi_tup hl
theorem pi_enumK {e : Expr} {ta : TA} {p pos tpos : Pos} {elts : List Expr} {kk : Nat} (hg : Gl X "enumerate") (hm : X.mg "enumerate" = none) (ha : PA X [e] ta) (hs : starEach [e] X.env = [(false, eval e X.env)] := by rfl) :
    PI X (.Tuple elts kk tpos) (.Call (.Name "enumerate" p) [e] [] pos) (iEnum K ta) := by subst hK; exact pi_enum hg hm ha hs
theorem pg_tupK {es : List Expr} {k : Nat} {t : TGs} {n : Nat} {pos : Pos} (hc : X.calm = true) (h : PGs X es t)
    (hn : (assignEach es X.env).length = n := by rfl) (hst : (assignEach es X.env).findIdx? (·.1) = none := by rfl) : PG X (.Tuple es k pos) (gTup K n t) := by subst hK; exact pg_tup hc h hn hst
theorem pe_fldK {e : Expr} {ta : TE} {f : Str} {pos : Pos} (he : PE X e ta) (hb : attributeBase e f X.env (eval e X.env) = eval e X.env) : PE X (.Attribute e f pos) (tFld K ta f) := by subst hK; exact pe_fld he hb
def tTruK (K : PySem.W.Frag) (ta : TE) : TT := fun σ H Q => ta σ H fun x H' => ∃ k, TruV K x H' k ∧ Q k H'
theorem pt_truthK {a : Expr} {ta : TE} (ha : PE X a ta) (he : ∀ whole, isTrue a X.env whole = (do let v ← whole; standAt a.pos; holding [v] (truthy v))) : PT X a (tTruK K ta) := by subst hK; exact pt_truth ha he
theorem pe_revLK {e : Expr} {te : TE} {k : Nat} {p1 p2 p3 pos : Pos} (he : PE X e te) : PE X (.Subscript e (.Slice none none (some (.UnaryOp .USub (.Constant (.int 1) k p1) p2)) p3) pos) (tRevL K te) := by subst hK; exact pe_revL he
theorem pe_bmK {T id : String} {name : Str} {o e : Expr} {es : List Expr} {to : TE} {t : TA} {r : V → List V → Hp → VK → Prop} {apos cpos : Pos} (pa : PlainAttrs T) (slot : Slot T name id) (hty : typeOf (.builtin id) = pure (.type "method_descriptor")) (hm : MtR X id r) (ho : PE X o to) (ha : PA X (e :: es) t)
    (h1 : attributeBase o name X.env (eval o X.env) = eval o X.env := by rfl)
    (h2 : ((backTo cpos (starEach (e :: es) X.env)).all (fun x => !x.1) && (backToKw cpos (keywordEach [] X.env)).all (fun x => x.1.isSome) && decide ((e :: es).length + ([] : List Keyword).length + (if ([] : List Keyword).isEmpty then 0 else 1) < 30)) = true := by rfl)
    (h3 : (apos.endLine == cpos.line) = true := by rfl) (h4 : starEach (e :: es) X.env = (false, eval e X.env) :: starEach es X.env := by rfl) (h5 : (backTo cpos (starEach es X.env)).any (·.1) = false := by rfl) :
    PE X (.Call (.Attribute o name apos) (e :: es) [] cpos) (tBM K T r to t) := by subst hK; exact pe_bm pa slot hty hm ho ha h1 h2 h3 h4 h5
theorem pe_bm0K {T id : String} {name : Str} {o : Expr} {to : TE} {r : V → List V → Hp → VK → Prop} {apos cpos : Pos} (pa : PlainAttrs T) (slot : Slot T name id) (hty : typeOf (.builtin id) = pure (.type "method_descriptor")) (hm : MtR X id r) (ho : PE X o to)
    (h1 : attributeBase o name X.env (eval o X.env) = eval o X.env := by rfl) (h2 : (apos.endLine == cpos.line) = true := by rfl) : PE X (.Call (.Attribute o name apos) [] [] cpos) (tBM0 K T r to) := by subst hK; exact pe_bm0 pa slot hty hm ho h1 h2
def rJoinQ (K : PySem.W.Frag) : V → List V → Hp → VK → Prop := fun x xs H Q => ∃ a p, ∃ ys : List Str, x = .str a ∧ xs = [.ref p] ∧ (SqL K H p (ys.map V.str) ∨ SqT K H p (ys.map V.str)) ∧ (ys.map (·.length)).sum + ys.length * a.length ≤ 16777216 ∧ Q (.str (Txt.join a ys)) H
theorem pe_joinK {o e : Expr} {to te : TE} {apos pos : Pos} (ho : PE X o to) (he : PE X e te) (hs : starEach [e] X.env = [(false, eval e X.env)] := by rfl) (hb : attributeBase o "join" X.env (eval o X.env) = eval o X.env := by rfl) (hl : (apos.endLine == pos.line) = true := by rfl) :
    PE X (.Call (.Attribute o "join" apos) [e] [] pos) (tM1 (rJoinQ K) to te) := by subst hK; exact pe_join ho he hs hb hl
end
theorem blkOk_in {Y : Cx} {N : List Str} {sc1 sc0 scope : Scope} {own : List (Str × Nat)} (hN : Y.N = N) (hs : Y.env.scope = relS sc1 sc0) (h : blkC N (relS sc1 sc0) scope own = true) : BlkOk Y.N Y.env.scope scope own := by
  rw [hN, hs]
  exact blkOk_by h
structure DefAt (K : PySem.W.Frag) (mg : Str → Option Value) (x : Str) (st : Stmt) (ps : List Str) where
  f : Addr
  fd : FuncData
  fn : Fun K x x st f fd
  mg : mg x = some (.ref f)
  b : Binds K fd ps []
structure FnAt (K : PySem.W.Frag) (x qual : Str) (st : Stmt) (ps : List Str) where
  f : Addr
  fd : FuncData
  fn : Fun K x qual st f fd
  b : Binds K fd ps []
structure ClsAt (K : PySem.W.Frag) (mg : Str → Option Value) (x qual : Str) (st : Stmt) (ps : List Str) where
  C : Addr
  mg : mg x = some (.ref C)
  cl : Cls K C
  init : FnAt K "__init__" qual st ps
  mkc : Mk K C init.f
structure MethAt (K : PySem.W.Frag) (C : Addr) (x qual : Str) (st : Stmt) (ps : List Str) extends FnAt K x qual st ps where
  me : Meth K C x f
structure Txt (K : PySem.W.Frag) (mg : Str → Option Value) where
  d_reached_behind : DefAt K mg "reached_behind" (top 1) ["rows", "start"]
  d_reached_in_front : DefAt K mg "reached_in_front" (top 2) ["rows", "start", "letters"]
  d_kept_rows : DefAt K mg "kept_rows" (top 3) ["rows", "order"]
  d__numbered : DefAt K mg "_numbered" (top 5) ["keys"]
  d_classes : DefAt K mg "classes" (top 6) ["rows", "marks"]
  d__chosen : DefAt K mg "_chosen" (top 7) ["rows", "parts"]
  d_least_parts : DefAt K mg "least_parts" (top 8) ["left", "right", "table", "letters"]
  d_onward : DefAt K mg "onward" (top 11) ["network", "places", "k"]
  d_accepts : DefAt K mg "accepts" (top 12) ["network", "places"]
  d_describes : DefAt K mg "describes" (top 13) ["network", "indexes"]
  d_automaton_of : DefAt K mg "automaton_of" (top 14) ["network", "letters", "anywhere"]
  d_least_automaton : DefAt K mg "least_automaton" (top 15) ["automaton"]
  d__merged : DefAt K mg "_merged" (top 25) ["one", "two"]
  d_scanned : DefAt K mg "scanned" (top 27) ["alphabet", "text", "start", "stops"]
  d_is_alphabet : DefAt K mg "is_alphabet" (top 31) ["thing"]
  d_is_word : DefAt K mg "is_word" (top 32) ["alphabet", "thing"]
  d_codes : DefAt K mg "codes" (top 33) ["alphabet", "word"]
  d_matches : DefAt K mg "matches" (top 36) ["pattern", "word"]
  d__automaton : DefAt K mg "_automaton" (top 37) ["pattern"]
  d__counted : DefAt K mg "_counted" (top 38) ["machine", "automaton", "counts"]
  d_count_outputs : DefAt K mg "count_outputs" (top 39) ["machine", "pattern", "length"]
  d__ways : DefAt K mg "_ways" (top 41) ["machine", "word"]
  d__into : DefAt K mg "_into" (top 42) ["machine", "state"]
  d_count_preimages : DefAt K mg "count_preimages" (top 43) ["machine", "word"]
  d__are_rows : DefAt K mg "_are_rows" (top 46) ["thing", "letters"]
  d__is_table : DefAt K mg "_is_table" (top 47) ["thing", "left", "right", "letters", "writes"]
  d_mirror : DefAt K mg "mirror" (top 49) ["machine"]
  d_least : DefAt K mg "least" (top 51) ["machine"]
  d__law_cell : DefAt K mg "_law_cell" (top 53) ["_law_script", "_law_k"]
  d__law_row : DefAt K mg "_law_row" (top 54) ["_law_script", "_law_first", "_law_last"]
  d__law_draw : DefAt K mg "_law_draw" (top 55) ["_law_box", "_law_many"]
  d__law_states : DefAt K mg "_law_states" (top 56) ["_law_box", "_law_many", "_law_letters"]
  d__law_machine : DefAt K mg "_law_machine" (top 57) ["_law_box", "_law_ins", "_law_outs", "_law_most"]
  d__law_alphabet : DefAt K mg "_law_alphabet" (top 58) ["_law_box", "_law_many"]
  d__law_made : DefAt K mg "_law_made" (top 59) ["_law_m"]
  d__law_words : DefAt K mg "_law_words" (top 60) ["_law_alphabet_here", "_law_most"]
  d__law_tree : DefAt K mg "_law_tree" (top 61) ["_law_box", "_law_alphabet_here", "_law_depth"]
  d__law_text_of : DefAt K mg "_law_text_of" (top 62) ["_law_tree_here", "_law_level"]
  d__law_pattern : DefAt K mg "_law_pattern" (top 63) ["_law_box", "_law_alphabet_here"]
  d__law_power : DefAt K mg "_law_power" (top 64) ["_law_base", "_law_many"]
  d_law : DefAt K mg "law" (top 65) ["_law_script"]
  c_Automaton : ClsAt K mg "Automaton" "Automaton.__init__" (inClass (top 10) 0) ["self", "rows", "accepts"]
  c_Network : ClsAt K mg "Network" "Network.__init__" (inClass (top 23) 0) ["self", "marks", "follow", "ends"]
  c_Part : ClsAt K mg "Part" "Part.__init__" (inClass (top 24) 0) ["self", "nullable", "first", "last"]
  c_Scanner : ClsAt K mg "Scanner" "Scanner.__init__" (inClass (top 26) 0) ["self", "alphabet"]
  c_Pattern : ClsAt K mg "Pattern" "Pattern.__init__" (inClass (top 35) 0) ["self", "alphabet", "text"]
  c_Machine : ClsAt K mg "Machine" "Machine.__init__" (inClass (top 48) 0) ["self", "reads", "writes", "left", "right", "table"]
  m_Scanner_is_closed : MethAt K c_Scanner.C "is_closed" "Scanner.is_closed" (inClass (top 26) 1) ["self"]
  m_Scanner_take : MethAt K c_Scanner.C "take" "Scanner.take" (inClass (top 26) 2) ["self", "sign"]
  m_Scanner__add : MethAt K c_Scanner.C "_add" "Scanner._add" (inClass (top 26) 3) ["self", "part"]
  m_Scanner__add_place : MethAt K c_Scanner.C "_add_place" "Scanner._add_place" (inClass (top 26) 4) ["self", "mark"]
  m_Scanner__take_star : MethAt K c_Scanner.C "_take_star" "Scanner._take_star" (inClass (top 26) 5) ["self", "sign"]
  m_Scanner__close : MethAt K c_Scanner.C "_close" "Scanner._close" (inClass (top 26) 6) ["self"]
  m_Scanner__join : MethAt K c_Scanner.C "_join" "Scanner._join" (inClass (top 26) 7) ["self", "last", "first"]
  m_Scanner__row : MethAt K c_Scanner.C "_row" "Scanner._row" (inClass (top 26) 8) ["self", "parts"]
  m_Scanner__choice : MethAt K c_Scanner.C "_choice" "Scanner._choice" (inClass (top 26) 9) ["self", "frame"]
  m_Scanner_network : MethAt K c_Scanner.C "network" "Scanner.network" (inClass (top 26) 10) ["self"]
  n_Automaton_rows : NoAttr K c_Automaton.C "rows"
  n_Automaton_accepts : NoAttr K c_Automaton.C "accepts"
  n_Network_marks : NoAttr K c_Network.C "marks"
  n_Network_follow : NoAttr K c_Network.C "follow"
  n_Network_ends : NoAttr K c_Network.C "ends"
  n_Part_nullable : NoAttr K c_Part.C "nullable"
  n_Part_first : NoAttr K c_Part.C "first"
  n_Part_last : NoAttr K c_Part.C "last"
  n_Scanner_alphabet : NoAttr K c_Scanner.C "alphabet"
  n_Scanner_marks : NoAttr K c_Scanner.C "marks"
  n_Scanner_follow : NoAttr K c_Scanner.C "follow"
  n_Scanner_frames : NoAttr K c_Scanner.C "frames"
  n_Scanner_signs : NoAttr K c_Scanner.C "signs"
  n_Scanner_starred : NoAttr K c_Scanner.C "starred"
  n_Pattern_alphabet : NoAttr K c_Pattern.C "alphabet"
  n_Pattern_text : NoAttr K c_Pattern.C "text"
  n_Pattern_network : NoAttr K c_Pattern.C "network"
  n_Machine_reads : NoAttr K c_Machine.C "reads"
  n_Machine_writes : NoAttr K c_Machine.C "writes"
  n_Machine_left : NoAttr K c_Machine.C "left"
  n_Machine_right : NoAttr K c_Machine.C "right"
  n_Machine_table : NoAttr K c_Machine.C "table"
  b_len : mg "len" = none
  b_range : mg "range" = none
  b_enumerate : mg "enumerate" = none
  b_tuple : mg "tuple" = none
  b_list : mg "list" = none
  b_sorted : mg "sorted" = none
  b_sum : mg "sum" = none
  b_max : mg "max" = none
  b_any : mg "any" = none
  b_all : mg "all" = none
  b_isinstance : mg "isinstance" = none
  b_str : mg "str" = none
  b_int : mg "int" = none
  b_bool : mg "bool" = none
  b_abs : mg "abs" = none
  t_MOST_SIGNS : Tok
  k_MOST_SIGNS : mg "MOST_SIGNS" = some (.int 12 t_MOST_SIGNS)
  t_STARS : Tok
  k_STARS : mg "STARS" = some (.str "*+?" t_STARS)
  t_LETTERS : Tok
  k_LETTERS : mg "LETTERS" = some (.str "abcdefghijklmnopqrstuvwxyz" t_LETTERS)
  t_MOST_LETTERS : Tok
  k_MOST_LETTERS : mg "MOST_LETTERS" = some (.int 5 t_MOST_LETTERS)
  t_MOST_STATES : Tok
  k_MOST_STATES : mg "MOST_STATES" = some (.int 40 t_MOST_STATES)
end K87

set_option autoImplicit true
set_option Elab.async false
set_option linter.all false
set_option maxRecDepth 100000
set_option maxHeartbeats 4000000
/-! K87Ops: single operations, what their readings ask of data in the frozen part. -/
namespace K87
open PySem L2 PySem.Spec PyProof.Rows
section
variable {α β : Type} {K : PySem.W.Frag} {p : Rep α} [Mono p] {q : Rep β} [Mono q] {Z H : Hp} {v : V} {xs : List α} {Q : VK}
theorem x_ix {x : α} {i : Nat} (hv : isL p Z v xs) (sub : Same Z H) (h : xs[i]? = some x) (k : ∀ w, p Z w x → Q w H) : rIxL K v (.int (i : Int)) H Q := by
  obtain ⟨a, vs, rfl, ha, pr⟩ := hv
  obtain ⟨w, hw, pw⟩ := pr_r pr h
  exact ⟨a, vs, i, w, rfl, rfl, SqL.of (sub _ _ ha), atI_nat hw, k w pw⟩
theorem x_ixm {l : Addr} {vs : List V} {w : V} {i : Nat} (h : H l = some (.lst vs)) (g : vs[i]? = some w) (k : Q w H) : rIxL K (.ref l) (.int (i : Int)) H Q :=
  ⟨l, vs, i, w, rfl, rfl, SqL.of h, atI_nat g, k⟩
theorem x_len {n : Nat} (hv : isL p Z v xs) (sub : Same Z H) (e : xs.length = n) (k : Q (.int (n : Int)) H) : rLenQ K [v] H Q := by
  obtain ⟨a, vs, rfl, ha, pr⟩ := hv
  exact ⟨a, vs, rfl, .inl (SqL.of (sub _ _ ha)), by rw [Paired.length pr, e]; exact k⟩
theorem x_lenm {l : Addr} {vs : List V} {n : Nat} (h : H l = some (.lst vs)) (e : vs.length = n) (k : Q (.int (n : Int)) H) : rLenQ K [.ref l] H Q :=
  ⟨l, vs, rfl, .inl (SqL.of h), by rw [e]; exact k⟩
/-- a built-in called with one argument, with two -/
theorem a_one {σ : L2.St} {ta : TE} {r : List V → Hp → VK → Prop} (h : ta σ H (fun x H1 => r [x] H1 Q)) : tCB r (tCons ta tNil) σ H Q := h
theorem a_two {σ : L2.St} {ta tb : TE} {r : List V → Hp → VK → Prop} (h : ta σ H (fun x H1 => tb σ H1 fun y H2 => r [x, y] H2 Q)) : tCB r (tCons ta (tCons tb tNil)) σ H Q := h
/-- displays -/
def TupK (vs : List V) (H : Hp) (Q : VK) : Prop := vs.length ≤ sizeLine ∧ ∀ t, H t = none → Q (.ref t) (upd H t (.tup vs))
def LstK (vs : List V) (H : Hp) (Q : VK) : Prop := vs.length ≤ sizeLine ∧ ∀ t, H t = none → Q (.ref t) (upd H t (.lst vs))
section
variable {σ : L2.St} {ta tb tc td te : TE}
theorem a_tup0 (h : TupK [] H Q) : tTup tNil σ H Q := h
theorem a_tup1 (h : ta σ H fun x H1 => TupK [x] H1 Q) : tTup (tCons ta tNil) σ H Q := h
theorem a_tup2 (h : ta σ H fun x H1 => tb σ H1 fun y H2 => TupK [x, y] H2 Q) : tTup (tCons ta (tCons tb tNil)) σ H Q := h
theorem a_tup3 (h : ta σ H fun x H1 => tb σ H1 fun y H2 => tc σ H2 fun z H3 => TupK [x, y, z] H3 Q) : tTup (tCons ta (tCons tb (tCons tc tNil))) σ H Q := h
theorem a_lst0 (h : LstK [] H Q) : tLst tNil σ H Q := h
theorem a_lst1 (h : ta σ H fun x H1 => LstK [x] H1 Q) : tLst (tCons ta tNil) σ H Q := h
theorem a_lst2 (h : ta σ H fun x H1 => tb σ H1 fun y H2 => LstK [x, y] H2 Q) : tLst (tCons ta (tCons tb tNil)) σ H Q := h
theorem a_lst3 (h : ta σ H fun x H1 => tb σ H1 fun y H2 => tc σ H2 fun z H3 => LstK [x, y, z] H3 Q) : tLst (tCons ta (tCons tb (tCons tc tNil))) σ H Q := h
theorem a_lst5 (h : ta σ H fun x H1 => tb σ H1 fun y H2 => tc σ H2 fun z H3 => td σ H3 fun u H4 => te σ H4 fun s H5 => LstK [x, y, z, u, s] H5 Q) : tLst (tCons ta (tCons tb (tCons tc (tCons td (tCons te tNil))))) σ H Q := h
end
/-- a new tuple, a new list, frozen at once -/
theorem x_tupZ {vs : List V} (sub : Same Z H) (hl : vs.length ≤ 1000) (k : ∀ t Z' H', Gr Z H Z' H' → Z' t = some (.tup vs) → Q (.ref t) H') : TupK vs H Q :=
  ⟨Nat.le_trans hl (by decide), fun t ht => k t (upd Z t (.tup vs)) _ ((Grow.refl sub).allocZ ht) upd_same⟩
theorem x_lstZ {vs : List V} (sub : Same Z H) (hl : vs.length ≤ 1000) (k : ∀ t Z' H', Gr Z H Z' H' → Z' t = some (.lst vs) → Q (.ref t) H') : LstK vs H Q :=
  ⟨Nat.le_trans hl (by decide), fun t ht => k t (upd Z t (.lst vs)) _ ((Grow.refl sub).allocZ ht) upd_same⟩
/-- a new list, not frozen -/
theorem x_lstN {vs : List V} (hl : vs.length ≤ 1000) (k : ∀ t, H t = none → Q (.ref t) (upd H t (.lst vs))) : LstK vs H Q :=
  ⟨Nat.le_trans hl (by decide), k⟩
/-- t + u -/
theorem x_cat {a b : Addr} {us ws : List V} (ha : Z a = some (.tup us)) (hb : Z b = some (.tup ws)) (sub : Same Z H) (hl : us.length + ws.length ≤ 1000000) (k : ∀ r Z' H', Gr Z H Z' H' → Z' r = some (.tup (us ++ ws)) → Q (.ref r) H') : rCatA K (.ref a) (.ref b) H Q := by
  refine ⟨a, b, us, ws, rfl, rfl, SqT.of (sub _ _ ha), SqT.of (sub _ _ hb), Nat.le_trans hl (by decide), fun e => ?_, fun _ e => ?_, fun _ _ t ht => ?_⟩
  · subst e; exact k b Z H (Grow.refl sub) hb
  · subst e; exact k a Z H (Grow.refl sub) (by rw [List.append_nil]; exact ha)
  · exact k t (upd Z t _) _ ((Grow.refl sub).allocZ ht) upd_same
end
theorem ifY {b : Bool} {A B : Prop} (e : b = true) (h : A) : if b = true then A else B := by subst e; exact iteT h
theorem ifN {b : Bool} {A B : Prop} (e : b = false) (h : B) : if b = true then A else B := by subst e; exact iteF h
theorem sz6 {n : Nat} (h : n ≤ 1000000) : n ≤ sizeLine := Nat.le_trans h (by decide)
theorem sz6' {n : Nat} (h : n ≤ 1000000) : n < sizeLine := Nat.lt_of_le_of_lt h (by decide)
/-- lists and tuples of numbers as they stand -/
abbrev vN (xs : List Nat) : List V := xs.map fun n : Nat => V.int (n : Int)
theorem vN_get {xs : List Nat} {i x : Nat} (h : xs[i]? = some x) : (vN xs)[i]? = some (V.int (x : Int)) := by
  show (xs.map _)[i]? = _
  rw [List.getElem?_map, h]; rfl
theorem isL_vN {Z : Hp} {a : Addr} {xs : List Nat} (h : Z a = some (.lst (vN xs))) : isL isN Z (.ref a) xs := isL_N.mpr ⟨a, rfl, h⟩
theorem isT_vN {Z : Hp} {a : Addr} {xs : List Nat} (h : Z a = some (.tup (vN xs))) : isT isN Z (.ref a) xs := isT_N.mpr ⟨a, rfl, h⟩
end K87

set_option autoImplicit true
set_option Elab.async false
set_option linter.all false
set_option maxRecDepth 100000
set_option maxHeartbeats 4000000
/-! K87Ops2: more operations; dicts of places. -/
namespace K87
open PySem L2 PySem.Spec PyProof.Rows
theorem Grow.keepH {Z H Z1 H1 : Hp} {l : Addr} {u : HO} (g : Grow Non Z H Z1 H1) (he : H l = some u) : H1 l = some u := g.h l u (fun z => z) he
theorem Grow.same {Z H Z1 H1 : Hp} (g : Grow Non Z H Z1 H1) : Same H H1 := fun a o e => g.h a o (fun z => z) e
theorem getD_of {α : Type} {xs : List α} {i : Nat} {x d : α} (h : xs[i]? = some x) : xs.getD i d = x := by
  rw [List.getD_eq_getElem?_getD, h]; rfl
theorem get_of {α : Type} {xs : List α} {i : Nat} {d : α} (h : i < xs.length) : xs[i]? = some (xs.getD i d) := by
  rw [List.getD_eq_getElem?_getD, List.getElem?_eq_getElem h]; rfl
theorem take_snoc {α : Type} {xs : List α} {i : Nat} {x : α} (h : xs[i]? = some x) : xs.take (i + 1) = xs.take i ++ [x] := by rw [List.take_succ, h]; rfl
theorem valV_consK {κ : Type} [DecidableEq κ] (p : κ × V) (kvs : List (κ × V)) (k : κ) : valV (p :: kvs) k = if p.1 = k then some p.2 else valV kvs k := by
  unfold valV
  rw [List.find?_cons]
  by_cases h : p.1 = k
  · rw [decide_eq_true h, if_pos h]; rfl
  · rw [decide_eq_false h, if_neg h]
theorem idx_ne {α : Type} [DecidableEq α] {y x : α} {xs : List α} (c : ¬ y = x) : (y :: xs).idxOf x = xs.idxOf x + 1 := by
  rw [List.idxOf_cons, show (y == x) = false from beq_eq_false_iff_ne.mpr c]; rfl
theorem idx_min {α : Type} [DecidableEq α] {x y : α} : ∀ {xs : List α} {m : Nat}, m < xs.idxOf x → xs[m]? = some y → y ≠ x
  | [], m, h, _ => by simp at h
  | z :: xs, m, h, e => by
    by_cases c : z = x
    · subst c; rw [List.idxOf_cons_self] at h; omega
    · rw [idx_ne c] at h
      cases m with
      | zero => simp at e; subst e; exact c
      | succ m => exact idx_min (xs := xs) (m := m) (by omega) (by simpa using e)
theorem a_yes {σ : L2.St} {H : Hp} {Q : Bool → Hp → Prop} (h : Q true H) : tYes σ H Q := h
section
variable {α κ : Type} [DecidableEq α] [DecidableEq κ]
/-- the places of the items of a list, from n on -/
def placeF (f : α → κ) : Nat → List α → List (κ × V)
  | _, [] => []
  | n, x :: xs => (f x, V.int (n : Int)) :: placeF f (n + 1) xs
theorem placeF_val {f : α → κ} (inj : ∀ x y, f x = f y → x = y) : ∀ (n : Nat) (xs : List α) (x : α), valV (placeF f n xs) (f x) = if x ∈ xs then some (V.int ((n + xs.idxOf x : Nat) : Int)) else none
  | n, [], x => by simp [placeF, valV]
  | n, y :: xs, x => by
    unfold placeF
    rw [valV_consK]
    by_cases c : y = x
    · subst c
      rw [if_pos rfl, if_pos List.mem_cons_self, List.idxOf_cons_self]; rfl
    · have : ¬ f y = f x := fun q => c (inj _ _ q)
      rw [if_neg this, placeF_val inj (n + 1) xs x]
      by_cases m : x ∈ xs
      · rw [if_pos m, if_pos (List.mem_cons_of_mem _ m), idx_ne c]
        congr 3; omega
      · rw [if_neg m, if_neg (by rw [List.mem_cons]; exact fun q => q.elim (fun q => c q.symm) m)]
theorem placeF_snoc (f : α → κ) : ∀ (n : Nat) (xs : List α) (x : α), placeF f n (xs ++ [x]) = placeF f n xs ++ [(f x, V.int ((n + xs.length : Nat) : Int))]
  | n, [], x => rfl
  | n, y :: xs, x => by
    show (f y, V.int (n : Int)) :: placeF f (n + 1) (xs ++ [x]) = (f y, V.int (n : Int)) :: placeF f (n + 1) xs ++ _
    rw [placeF_snoc f (n + 1) xs x, List.length_cons, show n + 1 + xs.length = n + (xs.length + 1) by omega]; rfl
theorem placeF_len (f : α → κ) : ∀ (n : Nat) (xs : List α), (placeF f n xs).length = xs.length
  | _, [] => rfl
  | n, x :: xs => by unfold placeF; rw [List.length_cons, List.length_cons, placeF_len f (n + 1) xs]
end
def kN (n : Nat) : Key := Sum.inl (n : Int)
theorem kN_inj (a b : Nat) (h : kN a = kN b) : a = b := by
  have : (a : Int) = b := Sum.inl.inj h
  omega
section
variable {K : PySem.W.Frag} {Z H : Hp} {v : V} {Q : VK}
/-- max of a list of numbers -/
theorem x_max {xs : List Nat} {m : Nat} (hv : isL isN Z v xs) (sub : Same Z H) (hm : m ∈ xs) (hu : ∀ x ∈ xs, x ≤ m) (k : Q (.int (m : Int)) H) : rMax K [v] H Q := by
  obtain ⟨a, rfl, h⟩ := isL_N.mp hv
  refine ⟨a, xs.map fun n : Nat => (n : Int), rfl, SqL.of (by rw [List.map_map]; exact sub _ _ h), by rw [List.length_map]; exact List.length_pos_of_mem hm, fun z hz hy => ?_⟩
  have e : z = (m : Int) := by
    obtain ⟨y, hy1, rfl⟩ := List.mem_map.mp hz
    have h1 := hy (m : Int) (List.mem_map_of_mem hm)
    have h2 := hu y hy1
    omega
  rw [e]; exact k
/-- the first place of a number in a list of numbers -/
theorem x_index {xs : List Nat} {x : Nat} (hv : isL isN Z v xs) (sub : Same Z H) (hx : x ∈ xs) (k : Q (.int ((xs.idxOf x : Nat) : Int)) H) : tyV K "list" v H ∧ rIndex K v [.int (x : Int)] H Q := by
  obtain ⟨a, rfl, h⟩ := isL_N.mp hv
  have hl : xs.idxOf x < xs.length := List.idxOf_lt_length_of_mem hx
  have sq : SqL K H a (vN xs) := SqL.of (sub _ _ h)
  refine ⟨.inl ⟨rfl, _, sq⟩, a, vN xs, .int (x : Int), xs.idxOf x, .int (x : Int), rfl, rfl, sq, rfl, ?_, ?_, ?_, fun m z hm hz => ?_, k⟩
  · rw [List.all_eq_true]
    intro y hy
    obtain ⟨z, _, rfl⟩ := List.mem_map.mp hy
    rfl
  · refine vN_get ?_
    rw [List.getElem?_eq_getElem hl, List.getElem_idxOf]
  · show ((x : Int) == (x : Int)) = true
    simp
  · have hml : m < xs.length := by omega
    rw [show (vN xs)[m]? = some (V.int ((xs[m] : Nat) : Int)) from vN_get (List.getElem?_eq_getElem hml)] at hz
    cases hz
    show (((xs[m] : Nat) : Int) == (x : Int)) = false
    have := idx_min hm (List.getElem?_eq_getElem hml)
    exact beq_eq_false_iff_ne.mpr (by omega)
/-- tuple(list): a new tuple, frozen -/
theorem x_tupOf {α : Type} {p : Rep α} [Mono p] {xs : List α} (hv : isL p Z v xs) (sub : Same Z H) (k : ∀ w Z' H', Gr Z H Z' H' → isT p Z' w xs → Q w H') : rTupOf K [v] H Q := by
  obtain ⟨a, vs, rfl, h, pr⟩ := hv
  exact ⟨a, vs, rfl, .inl ⟨SqL.of (sub _ _ h), fun t ht => k (.ref t) (upd Z t (.tup vs)) _ ((Grow.refl sub).allocZ ht) ⟨t, vs, rfl, upd_same, Paired.mapP pr fun _ _ r => Mono.mono (same_upd (sub.free ht)) r⟩⟩⟩
/-- list(list): a new list, frozen -/
theorem x_lstOf {α : Type} {p : Rep α} [Mono p] {xs : List α} (hv : isL p Z v xs) (sub : Same Z H) (k : ∀ w Z' H', Gr Z H Z' H' → isL p Z' w xs → Q w H') : rListOf K [v] H Q := by
  obtain ⟨a, vs, rfl, h, pr⟩ := hv
  exact ⟨a, vs, rfl, .inl (SqL.of (sub _ _ h)), fun t ht => k (.ref t) (upd Z t (.lst vs)) _ ((Grow.refl sub).allocZ ht) ⟨t, vs, rfl, upd_same, Paired.mapP pr fun _ _ r => Mono.mono (same_upd (sub.free ht)) r⟩⟩
theorem x_sum {xs : List Nat} (hv : isL isN Z v xs) (sub : Same Z H) (k : Q (.int ((xs.sum : Nat) : Int)) H) : rSum K [v] H Q := by
  obtain ⟨a, rfl, h⟩ := isL_N.mp hv
  refine ⟨a, xs.map fun n : Nat => (n : Int), rfl, SqL.of (by rw [List.map_map]; exact sub _ _ h), ?_⟩
  have : ∀ l : List Nat, (l.map fun n : Nat => (n : Int)).sum = ((l.sum : Nat) : Int) := by
    intro l; induction l with
    | nil => rfl
    | cons a l ih => rw [List.map_cons, List.sum_cons, List.sum_cons, ih]; omega
  rw [this]; exact k
theorem x_any {bs : List Bool} (hv : isL isB Z v bs) (sub : Same Z H) (k : Q (.bl (bs.any id)) H) : rAny K [v] H Q := by
  obtain ⟨a, rfl, h⟩ := isL_B.mp hv
  exact ⟨a, bs, rfl, SqL.of (sub _ _ h), k⟩
theorem x_all {bs : List Bool} (hv : isL isB Z v bs) (sub : Same Z H) (k : Q (.bl (bs.all id)) H) : rAll K [v] H Q := by
  obtain ⟨a, rfl, h⟩ := isL_B.mp hv
  exact ⟨a, bs, rfl, SqL.of (sub _ _ h), k⟩
def DcE (K : PySem.W.Frag) (E0 : HO) (St : Sto) (g : TG) (tt : TT) (tk tv : TE) (vs : List Nat) (σ : L2.St) (Q : VK) (us : List V) (H : Hp) : Prop := ∃ a ys, us = [.ref a] ∧ SqL K H a ys ∧ dcTail E0 St g tt tk tv vs σ Q (Ite K a) H
def DcR (E0 : HO) (St : Sto) (g : TG) (tt : TT) (tk tv : TE) (vs : List Nat) (σ : L2.St) (Q : VK) (us : List V) (H : Hp) : Prop := ∃ j : Int, us = [.int j] ∧ -(2 ^ 62) ≤ j ∧ j < 2 ^ 62 ∧ dcTail E0 St g tt tk tv vs σ Q (Itr 0 j.toNat) H
def DcL (K : PySem.W.Frag) (E0 : HO) (St : Sto) (g : TG) (tt : TT) (tk tv : TE) (vs : List Nat) (σ : L2.St) (Q : VK) (v : V) (H : Hp) : Prop := ∃ a, v = .ref a ∧ (∃ ys, SqL K H a ys) ∧ dcTail E0 St g tt tk tv vs σ Q (Itl K a) H
theorem d_enum {K : PySem.W.Frag} {g : TG} {tt : TT} {ta tk tv : TE} {vs : List Nat} {σ : L2.St} {Q : VK} {H : Hp} (h : ta σ H fun v H1 => DcE K (.dK []) stoK g tt tk tv vs σ Q [v] H1) : tDc (iEnum K (tCons ta tNil)) g tt tk tv vs σ H Q := h
theorem d_list {K : PySem.W.Frag} {g : TG} {tt : TT} {tl tk tv : TE} {vs : List Nat} {σ : L2.St} {Q : VK} {H : Hp} (h : tl σ H fun v H1 => DcL K (.dK []) stoK g tt tk tv vs σ Q v H1) : tDc (iList K tl) g tt tk tv vs σ H Q := h
theorem d_rangeT {g : TG} {tt : TT} {ta tk tv : TE} {vs : List Nat} {σ : L2.St} {Q : VK} {H : Hp} (h : ta σ H fun v H1 => DcR (.dT []) stoT g tt tk tv vs σ Q [v] H1) : tDg (.dT []) stoT (iRng1 (tCons ta tNil)) g tt tk tv vs σ H Q := h
/-- {x: at for at, x in enumerate(xs)}: the names at s and t -/
theorem k_place {σ : L2.St} {vs : List Nat} {s t : Nat} {us : List V} {xs : List Nat} (hv : us = [v]) (hl : isL isN Z v xs) (nd : xs.Nodup) (sub : Same Z H) (hs : s ∈ vs) (ht : t ∈ vs) (hst : s ≠ t) (hs1 : (σ[s]?).isSome = true) (ht1 : (σ[t]?).isSome = true) (hn : xs.length ≤ 1000000)
    (fin : ∀ D Z' H', Gr Z H Z' H' → H D = none → Z' D = none → H' D = some (.dK (placeF kN 0 xs)) → Q (.ref D) H') :
    DcE K (.dK []) stoK (gTup K 2 (gCons (gName s) (gCons (gName t) gNil))) tYes (tVar t) (tVar s) vs σ Q us H := by
  obtain ⟨a, rfl, ha⟩ := isL_N.mp hl
  refine ⟨a, vN xs, hv, SqL.of (sub _ _ ha), ?_⟩
  refine dcomp_it (walk_enum (K := K) (a := a) (xs := vN xs)) (fun i o => o = .dK (placeF kN 0 (xs.take i))) sub (fun Z1 H1 g1 => SqL.of (g1.zh _ _ (g1.z _ _ ha))) rfl (fun i x Z1 H1 H2 D o R R0 hi g1 hD zD dv hy hR hR0 => ?_)
    (fun D Z' H' o g hD zD hD' dv => fin D Z' H' g hD zD (by rw [hD', dv, show (vN xs).length = xs.length from List.length_map _, List.take_length]))
  subst dv
  obtain ⟨T, x1, x2, rfl, hT, rfl, h1, h2⟩ := hy
  cases h1
  have hix : i < xs.length := by rw [← show (vN xs).length = xs.length from List.length_map _]; exact hi
  have e2 : x2 = V.int ((xs[i] : Nat) : Int) := by
    have h2 : (vN xs)[i]? = some x2 := h2
    rw [vN_get (List.getElem?_eq_getElem hix)] at h2
    exact (Option.some.inj h2).symm
  subst e2
  have gT : Gr Z1 H1 Z1 (upd H1 T (.tup [.int (i : Nat), V.int ((xs[i] : Nat) : Int)])) := (Grow.refl g1.zh).alloc hT
  have hDT : D ≠ T := ne_of_none hD hT
  refine ⟨T, _, rfl, SqT.of upd_same, rfl, _, _, rfl, _, _, rfl, rfl, wipe_set2 hs ht, ?_⟩
  have lw : (wipe σ vs).length = σ.length := wipe_length σ vs
  replace hs1 : s < σ.length := by obtain ⟨z, hz⟩ := Option.isSome_iff_exists.mp hs1; exact (List.getElem?_eq_some_iff.mp hz).1
  replace ht1 : t < σ.length := by obtain ⟨z, hz⟩ := Option.isSome_iff_exists.mp ht1; exact (List.getElem?_eq_some_iff.mp hz).1
  refine a_yes (ifY rfl ⟨_, List.getElem?_set_self (by rw [List.length_set, lw]; exact ht1), _, by rw [List.getElem?_set_ne hst.symm]; exact List.getElem?_set_self (by rw [lw]; exact hs1), hR _ _ Z1 _ gT fun N hN => ?_⟩)
  refine ⟨placeF kN 0 (xs.take i), kN xs[i], rfl, by rw [upd_ne hDT]; exact hD, sz6' (by rw [placeF_len, List.length_take]; omega), hN _ ?_⟩
  have tk := take_snoc (List.getElem?_eq_getElem hix)
  have nm : xs[i] ∉ xs.take i := by
    have := nd
    rw [← List.take_append_drop (i + 1) xs, tk, List.nodup_append, List.nodup_append] at this
    exact fun z => this.1.2.2 _ z _ (List.mem_singleton.mpr rfl) rfl
  rw [putK_new _ (by rw [placeF_val kN_inj, if_neg nm]), tk, placeF_snoc, List.length_take, Nat.min_eq_left (Nat.le_of_lt hix), Nat.zero_add]
end
end K87

set_option autoImplicit true
set_option Elab.async false
set_option linter.all false
set_option maxRecDepth 100000
set_option maxHeartbeats 4000000
namespace K87
open PySem L2 PySem.Spec PyProof.Rows
def AL : List Str := ["ba", "ad", "dc", "ce", "ez"]
def cs (a : Str) : List Nat := a.cps.toList
theorem al_two : ∀ a ∈ AL, (cs a).length = 2 ∧ a.length = 2 ∧ (cs a).Nodup := by decide +kernel
theorem al_idx : ∀ a ∈ AL, ∀ c ∈ cs a, Builtin.Str.occurrences a ⟨#[c]⟩ 0 a.length 1 = [(cs a).idxOf c] := by decide +kernel
theorem al_cnt : ∀ a ∈ AL, ∀ c ∈ cs a, PySem.Txt.count a ⟨#[c]⟩ = 1 := by decide +kernel
theorem al_lets : ∀ a ∈ AL, ∀ c ∈ cs a, c ∈ (Str.ofString "abcdefghijklmnopqrstuvwxyz").cps.toList := by decide +kernel
theorem al_signs : ∀ a ∈ AL, ∀ c ∈ cs a, c ∉ [42, 43, 63, 40, 41, 124, 46] := by decide +kernel
end K87

set_option autoImplicit true
set_option Elab.async false
set_option linter.all false
set_option maxRecDepth 100000
set_option maxHeartbeats 4000000
set_option pp.deepTerms.threshold 6
/-! K87D1: reached_behind. -/
namespace K87
open PySem L2 PySem.Spec PyProof.Rows
section
local macro_rules | `(tactic| walk_at "nf") => `(tactic| try dsimp only [tSeq, tAsg, gName, tRet, tRetN, tDrop, tNext, tIfS, tTest, tB, tOp, tUn, tNil, tCons, tCB, tC, tAnd, tOr, tNot, tAndV, tOrV, tNotV, tIf, sDPut, sFld, sFldAug, tM0, tM1, tBM, tBM0, tMeth, tMake, tCall, sGPut, tGGet, tGNin, tDGet, tDNotIn, tDIn, tFld])
variable {P : Program} {w : World} {K : PySem.W.Frag} {mg : Str → Option Value} {base : Heap}

/-- a pair whose first is n -/
def isF : Rep Nat := fun Z v n => ∃ a x, v = .ref a ∧ Z a = some (.tup [.int (n : Int), x])
instance : Mono isF := ⟨fun s ⟨a, x, e, h⟩ => ⟨a, x, e, s _ _ h⟩⟩
def spRB : Sp := fun vs H Q _ => ∃ (Z : Hp) (v0 : V) (rows : List (List Nat)) (start : Nat), vs = [v0, .int (start : Int)] ∧ Same Z H ∧ isL (isL isN) Z v0 rows ∧ Wide rows ∧ start < rows.length ∧
  ∀ v Z' H' os, Gr Z H Z' H' → Closed rows start os → isL isF Z' v os → Q v H'
/-- what found holds -/
def FD (Z : Hp) (m : Nat) (kvs : List (Key × V)) (os : List Nat) : Prop := Paired (fun (kv : Key × V) (s : Nat) => kv.1 = Sum.inl (s : Int) ∧ ∃ b ws, kv.2 = .ref b ∧ Z b = some (.tup ws) ∧ ws.length ≤ m) kvs os
theorem FD.mono {Z Z' : Hp} {m m' : Nat} {kvs : List (Key × V)} {os : List Nat} (h : FD Z m kvs os) (s : Same Z Z') (l : m ≤ m') : FD Z' m' kvs os :=
  Paired.mapP h fun _ _ ⟨e, b, ws, e1, e2, e3⟩ => ⟨e, b, ws, e1, s _ _ e2, by omega⟩
theorem FD.val {Z : Hp} {m : Nat} {kvs : List (Key × V)} {os : List Nat} (h : FD Z m kvs os) (s : Nat) : (s ∈ os ∧ ∃ b ws, valV kvs (Sum.inl (s : Int)) = some (.ref b) ∧ Z b = some (.tup ws) ∧ ws.length ≤ m) ∨ (s ∉ os ∧ valV kvs (Sum.inl (s : Int)) = none) := by
  unfold FD at h
  induction h with
  | nil => exact .inr ⟨by simp, rfl⟩
  | @cons p o kvs os r t ih =>
    obtain ⟨e, b, ws, e1, e2, e3⟩ := r
    rw [valV_consK]
    by_cases c : o = s
    · subst c
      exact .inl ⟨List.mem_cons_self, b, ws, by rw [if_pos e, e1], e2, e3⟩
    · have : ¬ p.1 = Sum.inl (s : Int) := by
        rw [e]
        intro q
        injection q with q
        exact c (Int.ofNat.inj q)
      rw [if_neg this]
      rcases ih with ⟨q1, q2⟩ | ⟨q1, q2⟩
      · exact .inl ⟨List.mem_cons_of_mem _ q1, q2⟩
      · exact .inr ⟨by simp [q1]; exact fun z => c z.symm, q2⟩
theorem nodup_lt_length : ∀ {n : Nat} {os : List Nat}, os.Nodup → (∀ s ∈ os, s < n) → os.length ≤ n := by
  intro n os nd h
  have : os ⊆ List.range n := fun s hs => List.mem_range.mpr (h s hs)
  have := List.Nodup.length_le_of_subset nd this
  rwa [List.length_range] at this

/-- the state of the two loops -/
structure RBH (Z H : Hp) (rows : List (List Nat)) (start : Nat) (fd od : Addr) (os : List Nat) (Hc : Hp) : Prop where
  gr : ∃ Z1 kvs, Gr Z H Z1 Hc ∧ Z1 fd = none ∧ Z1 od = none ∧ Hc fd = some (.dK kvs) ∧ FD Z1 os.length kvs os
  od : Hc od = some (.lst (vN os))
  first : ∃ r, os = start :: r
  nd : os.Nodup
  lt : ∀ s ∈ os, s < rows.length

abbrev N_reached_behind : List Str := ["rows", "start", "found", "order", "at", "state", "k", "other"]
theorem sc_reached_behind : FnScope N_reached_behind ["rows", "start"] (defScope (top 1)) := ⟨rfl, rfl, rfl, by decide +kernel, rfl, by decide +kernel, by decide +kernel⟩
theorem ok_reached_behind (T : Txt K mg) : FnOk P w K mg base CX0 1 T.d_reached_behind.f T.d_reached_behind.fd ["rows", "start"] spRB := by
  refine T.d_reached_behind.fn.ok sc_reached_behind (fun vs H Q E h => ?_) (fun cdv A outer s H vs Q E hr h => ?_)
  · obtain ⟨Z, v0, rows, start, rfl, _⟩ := h
    rfl
  · obtain ⟨Z, v0, rows, start, rfl, sub, hrows, wd, hst, k⟩ := h
    have hu := hu_of hr
    refine ⟨_, pss_cons (ps_set (i := 2) sc_reached_behind.nd rfl (.inr rfl) (pe_disp (pps_cons (pv 1) (pe_tup pa_nil) pps_nil) (by rfl) (by rfl) (fun z => by cases z) (by decide)))
  (pss_cons (ps_set (i := 3) sc_reached_behind.nd rfl (.inl rfl) (pe_lst (pa_cons (pv 1) pa_nil)))
  (pss_cons (ps_set (i := 4) sc_reached_behind.nd rfl (.inl rfl) (pe_int))
  (pss_cons (ps_while PassesOwn.never (pt_cmpR op_lt (pv 4) (pe_callB (call_len_seqK K rfl) (by rfl) T.b_len (by decide +kernel) (pa_cons (pv 3) pa_nil)) (nomark _))
  (pss_cons (ps_set (i := 5) sc_reached_behind.nd rfl (.inl rfl) (pe_ix (ix_listK K rfl) (pv 3) (pv 4) (fun _ _ => rfl)))
  (pss_cons (ps_for PassesOwn.never rfl (pi_enumK K rfl (by rfl) T.b_enumerate (pa_cons (pe_ix (ix_listK K rfl) (pv 0) (pv 5) (fun _ _ => rfl)) pa_nil)) (pg_tupK (n := 2) K rfl rfl (pgs_cons (pg_name (i := 6) sc_reached_behind.nd rfl (.inl rfl) (.inl rfl)) (pgs_cons (pg_name (i := 7) sc_reached_behind.nd rfl (.inl rfl) (.inl rfl)) pgs_nil)))
  (pss_one (ps_if (pt_cmp (pc_dnotin hu (pv 7) (pv 2)))
  (pss_cons (ps_dput hu (pv 2) (pv 7) (pe_op (op_catAK K rfl) (pe_dget hu (pv 2) (pv 5) (fun _ _ => rfl)) (pe_tup (pa_cons (pv 6) pa_nil))) rfl)
  (pss_one (ps_expr (pe_bmK K rfl PySem.F.plainAttrs_list PySem.F.slot_list_append PySem.F.type_list_append mt_append (pv 3) (pa_cons (pv 7) pa_nil)))))
  (pss_nil))))
  (pss_one (ps_aug (i := 4) sc_reached_behind.nd rfl (.inl rfl) (pe_int) ip_add)))))
  (pss_one (ps_ret (pe_lc (own := [("state", 5)]) rfl sc_reached_behind.nd (pi_listK K rfl (pv 3)) (blkOk_by (N := N_reached_behind) (sc := defScope (top 1)) (by decide +kernel)) (fun _ _ _ _ _ => pg_name (i := 5) sc_reached_behind.nd rfl (.inl rfl) (.inr rfl)) (fun _ _ _ _ _ => pts_nil) (fun _ _ _ _ _ => pe_tup (pa_cons (pv 5) (pa_cons (pe_dget hu (pv 2) (pv 5) (fun _ _ => rfl)) pa_nil))))))))), ?_⟩
    walk_at "nf"
    -- found = {start: ()}
    intro fd hfd
    refine ⟨_, rfl, (by show 0 ≤ sizeLine; decide), fun t0 ht0 => ?_⟩
    have nf : t0 ≠ fd := (ne_of_none (upd_same (H := H) (a := fd) (o := .dK [])) ht0).symm
    refine ⟨by rw [upd_ne nf.symm, upd_same], [(Sum.inl (start : Int), .ref t0)], rfl, by show 1 ≤ 15; decide, ?_⟩
    have ht0' : H t0 = none := by rw [upd_ne nf] at ht0; exact ht0
    have g1 : Gr Z H (upd Z t0 (.tup [])) (upd (upd (upd H fd (.dK [])) t0 (.tup [])) fd (.dK [(Sum.inl (start : Int), V.ref t0)])) :=
      (((Grow.refl sub).alloc hfd).allocZ ht0).mut (.inl hfd) (by rw [upd_ne nf.symm]; exact sub.free hfd) (u := .dK []) (by rw [upd_ne nf.symm, upd_same])
    -- order = [start]; at = 0
    refine ⟨_, rfl, (by show 1 ≤ sizeLine; decide), fun od hod => ?_⟩
    have nod : fd ≠ od := ne_of_none upd_same hod
    have g2 : Gr Z H (upd Z t0 (.tup [])) (upd _ od (.lst (vN [start]))) := g1.alloc hod
    have hff : H fd = none := hfd
    have hoo : H od = none := g1.free hod
    -- while at < len(order)
    refine ⟨fun m σ Hc => ∃ os at_ a b c, σ = [some v0, some (.int (start : Int)), some (.ref fd), some (.ref od), some (.int ((at_ : Nat) : Int)), a, b, c] ∧ RBH Z H rows start fd od os Hc ∧ at_ ≤ os.length ∧ (∀ s ∈ os.take at_, ∀ o ∈ rows.getD s [], o ∈ os) ∧ m = rows.length - at_,
      ⟨_, [start], 0, none, none, none, rfl, ⟨⟨_, [(Sum.inl (start : Int), V.ref t0)], g2, by rw [upd_ne nf.symm]; exact sub.free hfd, ?_, by rw [upd_ne nod, upd_same]; rfl, .cons ⟨rfl, t0, [], rfl, upd_same, Nat.zero_le _⟩ .nil⟩, upd_same, ⟨[], rfl⟩, by simp, by simpa using hst⟩, Nat.zero_le _, by simp, rfl⟩, ?_⟩
    · exact g1.zh.free hod
    rintro m σ Hc ⟨os, at_, a, b, c, rfl, R, hat, done, rfl⟩
    have hlen : os.length ≤ rows.length := nodup_lt_length R.nd R.lt
    have hfew := wd.few
    walk_at "nf"
    refine ⟨_, rfl, _, rfl, x_lenm R.od (by rw [List.length_map]) ⟨_, _, rfl, rfl, _, rfl, ?_⟩⟩
    by_cases hlt : at_ < os.length
    · refine ifY (decide_eq_true (by omega)) ?_
      refine ⟨_, fun _ _ h => h, ?_⟩
      obtain ⟨s0, hs0⟩ : ∃ s0, os[at_]? = some s0 := ⟨_, List.getElem?_eq_getElem hlt⟩
      have ms0 : s0 ∈ os := List.mem_of_getElem? hs0
      -- state = order[at]
      refine ⟨_, rfl, _, rfl, x_ixm R.od (vN_get hs0) ?_⟩
      -- for k, other in enumerate(rows[state])
      obtain ⟨row, hrow⟩ : ∃ row, rows[s0]? = some row := ⟨_, List.getElem?_eq_getElem (R.lt s0 ms0)⟩
      have mrow : row ∈ rows := List.mem_of_getElem? hrow
      have subc : Same Z Hc := by obtain ⟨Z1, kvs, g, _⟩ := R.gr; exact g.z.trans g.zh
      refine f_enum ⟨_, rfl, _, rfl, x_ix hrows subc hrow fun w hw => ?_⟩
      refine k_forE (K := K) (Z := Z) rfl hw (fun i σ' H' => ∃ os' b c, σ' = [some v0, some (.int (start : Int)), some (.ref fd), some (.ref od), some (.int (at_ : Int)), some (.int (s0 : Int)), b, c] ∧ RBH Z H rows start fd od os' H' ∧ (∃ r, os' = os ++ r) ∧ ∀ o ∈ row.take i, o ∈ os')
        ⟨os, b, c, rfl, R, ⟨[], by simp⟩, by simp⟩ (fun i σ' H' ⟨os', b, c, _, R', _⟩ => by obtain ⟨Z1, kvs, g, _⟩ := R'.gr; exact g.z.trans g.zh) ?_ ?_
      · rintro i o wo σ' H' Tp ho po ⟨os', b, c, rfl, R', ⟨r, er⟩, dn⟩ hTp
        obtain ⟨Z1, kvs, g, z1, z2, hkv, fdv⟩ := R'.gr
        obtain rfl : wo = .int (o : Int) := po
        have nTf : fd ≠ Tp := ne_of_none hkv hTp
        have nTo : od ≠ Tp := ne_of_none R'.od hTp
        have hkv' : (upd H' Tp (.tup [.int (i : Int), .int (o : Int)])) fd = some (.dK kvs) := by rw [upd_ne nTf]; exact hkv
        have gT := g.alloc (o := .tup [.int (i : Int), .int (o : Int)]) hTp
        have hor : o < rows.length := wd.lt row mrow o (List.mem_of_getElem? ho)
        have tk : row.take (i + 1) = row.take i ++ [o] := by rw [List.take_succ, ho]; rfl
        refine ⟨_, rfl, _, rfl, fd, _, rfl, DGet.k (k := Sum.inl (o : Int)) hkv', _, rfl, ?_⟩
        rcases fdv.val o with ⟨mo, b1, ws, e1, e2, e3⟩ | ⟨mo, e1⟩
        · -- it is there
          refine ifN (by rw [e1]; rfl) ⟨os', _, _, rfl, ⟨⟨Z1, kvs, gT, z1, z2, hkv', fdv⟩, by rw [upd_ne nTo]; exact R'.od, R'.first, R'.nd, R'.lt⟩, ⟨r, er⟩, fun x hx => ?_⟩
          rw [tk] at hx
          rcases List.mem_append.mp hx with hx | hx
          · exact dn x hx
          · rw [List.mem_singleton.mp hx]; exact mo
        · refine ifY (by rw [e1]; rfl) ?_
          have ms0' : s0 ∈ os' := by rw [er]; exact List.mem_append_left _ ms0
          rcases fdv.val s0 with ⟨_, b1, ws, f1, f2, f3⟩ | ⟨no, _⟩
          · -- found[other] = found[state] + (k,)
            refine ⟨_, rfl, _, rfl, fd, _, rfl, f1 ▸ DGet.k (k := Sum.inl (s0 : Int)) hkv', a_tup1 ⟨_, rfl, x_tupZ (Z := Z1) gT.zh (by simp) fun t2 Z2 H2 gr2 ht2 => ?_⟩⟩
            have g2 := gT.trans gr2
            have hl' : os'.length ≤ rows.length := nodup_lt_length R'.nd R'.lt
            refine x_cat (Z := Z2) (gr2.z _ _ f2) ht2 g2.zh (by simp; omega) fun r3 Z3 H3 gr3 hr3 => ?_
            have g3 := g2.trans gr3
            have kv3 : H3 fd = some (.dK kvs) := gr3.keepH (gr2.keepH hkv')
            have od3 : H3 od = some (.lst (vN os')) := gr3.keepH (gr2.keepH (by rw [upd_ne nTo]; exact R'.od))
            have y1 : Z3 fd = none := gr3.keepZ (gr2.keepZ z1 hkv') (gr2.keepH hkv')
            have y2 : Z3 od = none := gr3.keepZ (gr2.keepZ z2 (by rw [upd_ne nTo]; exact R'.od)) (gr2.keepH (by rw [upd_ne nTo]; exact R'.od))
            have lk : kvs.length = os'.length := Paired.length fdv
            refine ⟨_, rfl, _, rfl, fd, _, rfl, DPut.k (k := Sum.inl (o : Int)) kv3 (sz6' (by omega)), ?_⟩
            rw [putK_new _ e1]
            -- order.append(other)
            have od4 : (upd H3 fd (.dK (kvs ++ [(Sum.inl (o : Int), V.ref r3)]))) od = some (.lst (vN os')) := by rw [upd_ne nod.symm]; exact od3
            refine ⟨_, rfl, .inl ⟨rfl, _, SqL.of od4⟩, _, rfl, od, _, _, rfl, rfl, od4, sz6' (by rw [List.length_map]; omega), ?_⟩
            have g4 := (g3.mut (o := .dK (kvs ++ [(Sum.inl (o : Int), V.ref r3)])) (.inl hff) y1 kv3).mut (o := .lst (vN os' ++ [V.int (o : Int)])) (u := .lst (vN os')) (.inl hoo) y2 (by rw [upd_ne nod.symm]; exact od3)
            have ev : vN (os' ++ [o]) = vN os' ++ [V.int (o : Int)] := by simp [vN]
            refine ⟨os' ++ [o], _, _, rfl, ⟨⟨Z3, _, g4, y1, y2, by rw [upd_ne nod, upd_same], ?_⟩, by rw [ev]; exact upd_same, ?_, ?_, ?_⟩, ⟨r ++ [o], by rw [er, List.append_assoc]⟩, fun x hx => ?_⟩
            · refine Paired.snoc ((fdv.mono (gr2.z.trans gr3.z) (by simp))) ⟨rfl, r3, _, rfl, hr3, ?_⟩
              simp
              omega
            · obtain ⟨q, eq⟩ := R'.first
              exact ⟨q ++ [o], by rw [eq]; rfl⟩
            · rw [List.nodup_append]
              exact ⟨R'.nd, by simp, fun x hx y hy e => mo (by rw [← List.mem_singleton.mp hy, ← e]; exact hx)⟩
            · intro x hx
              rcases List.mem_append.mp hx with hx | hx
              · exact R'.lt x hx
              · rw [List.mem_singleton.mp hx]; exact hor
            · rw [tk] at hx
              rcases List.mem_append.mp hx with hx | hx
              · exact List.mem_append_left _ (dn x hx)
              · exact List.mem_append_right _ hx
          · exact absurd ms0' no
      · -- at += 1
        rintro σ' H' ⟨os', b, c, rfl, R', ⟨r, er⟩, dn⟩
        refine ⟨_, rfl, _, _, rfl, rfl, ?_⟩
        refine ⟨rows.length - (at_ + 1), by omega, os', at_ + 1, _, _, _, rfl, R', by rw [er, List.length_append]; omega, fun x hx => ?_, rfl⟩
        have tk : os'.take (at_ + 1) = os.take at_ ++ [s0] := by
          rw [er, List.take_append_of_le_length (by omega), List.take_succ, hs0]; rfl
        rw [tk] at hx
        rcases List.mem_append.mp hx with hx | hx
        · intro o ho
          rw [er]
          exact List.mem_append_left _ (done x hx o ho)
        · rw [List.mem_singleton.mp hx, getD_of hrow]
          intro o ho
          exact dn o (by rw [List.take_length]; exact ho)
    · -- the end
      refine ifN (decide_eq_false (by omega)) ?_
      have e : at_ = os.length := by omega
      subst e
      rw [List.take_length] at done
      obtain ⟨Z1, kvs, g, z1, z2, hkv, fdv⟩ := R.gr
      refine c_list ⟨_, rfl, ?_⟩
      have gf := g.freeze hoo z2 R.od
      have hfz : (upd Z1 od (.lst (vN os))) fd = none := by rw [upd_ne nod]; exact z1
      refine k_mapL (K := K) (p := isN) (q := isF) id (isL_vN (Z := upd Z1 od (.lst (vN os))) upd_same) gf.zh (by omega) (by decide) (fun i x wx Z2 H2 R hx px g2 hR => ?_) (fun v Z' H' g' hv => ?_)
      · obtain rfl : wx = .int (x : Int) := px
        have kv2 := g2.keepH hkv
        refine a_tup2 ⟨_, rfl, _, rfl, _, rfl, fd, ?_⟩
        rcases fdv.val x with ⟨_, b1, ws, f1, f2, f3⟩ | ⟨no, _⟩
        · refine ⟨_, rfl, f1 ▸ DGet.k (k := Sum.inl (x : Int)) kv2, x_tupZ (Z := Z2) g2.zh (by simp) fun t Z3 H3 g3 ht => hR _ Z3 H3 g3 ⟨t, _, rfl, ht⟩⟩
        · exact absurd (List.mem_of_getElem? hx) no
      · rw [List.map_id] at hv
        exact k v Z' H' os (gf.trans g') ⟨R.first, R.nd, R.lt, done⟩ hv
end
end K87

set_option autoImplicit true
set_option Elab.async false
set_option linter.all false
set_option maxRecDepth 100000
set_option maxHeartbeats 4000000
set_option pp.deepTerms.threshold 6
/-! K87D2: _numbered. -/
namespace K87
open PySem L2 PySem.Spec PyProof.Rows
section
local macro_rules | `(tactic| walk_at "nf") => `(tactic| try dsimp only [tSeq, tAsg, gName, tRet, tRetN, tDrop, tNext, tIfS, tTest, tB, tOp, tUn, tNil, tCons, tCB, tC, tAnd, tOr, tNot, tAndV, tOrV, tNotV, tIf, sDPut, sFld, sFldAug, tM0, tM1, tBM, tBM0, tMeth, tMake, tCall, sGPut, tGGet, tGNin, tDGet, tDNotIn, tDIn, tFld])
variable {P : Program} {w : World} {K : PySem.W.Frag} {mg : Str → Option Value} {base : Heap}

instance {κ : Type} [DecidableEq κ] (G : GK P w κ) : Mono (G.key : Rep κ) := ⟨fun s h => G.kstay h fun b xs e => s b _ e⟩
def spNum {κ : Type} [DecidableEq κ] (G : GK P w κ) : Sp := fun vs H Q _ => ∃ (Z : Hp) (v0 : V) (keys : List κ), vs = [v0] ∧ Same Z H ∧ isL G.key Z v0 keys ∧ keys.length ≤ 10000 ∧
  ∀ v Z' H' ds, Gr Z H Z' H' → Dis keys ds → isL isN Z' v (keys.map ds.idxOf) → Q v H'
abbrev N__numbered : List Str := ["keys", "numbers", "out", "key"]
theorem sc__numbered : FnScope N__numbered ["keys"] (defScope (top 5)) := ⟨rfl, rfl, rfl, by decide +kernel, rfl, by decide +kernel, by decide +kernel⟩
theorem ok__numbered {κ : Type} [DecidableEq κ] (T : Txt K mg) (G : GK P w κ) : FnOk P w K mg base CX0 1 T.d__numbered.f T.d__numbered.fd ["keys"] (spNum G) := by
  refine T.d__numbered.fn.ok sc__numbered (fun vs H Q E h => ?_) (fun cdv A outer s H vs Q E hr h => ?_)
  · obtain ⟨Z, v0, keys, rfl, _⟩ := h
    rfl
  · obtain ⟨Z, v0, keys, rfl, sub, hk, few, k⟩ := h
    have hu9 : (A.deeper (envOfC "_numbered" (defScope (top 5)) s.heap.objs.size T.d__numbered.f cdv)).units + 9 < cLine := by have := hr.units; omega
    refine ⟨_, pss_cons (ps_set (i := 1) sc__numbered.nd rfl (.inl rfl) (G.r_new _ rfl rfl _))
  (pss_cons (ps_set (i := 2) sc__numbered.nd rfl (.inl rfl) (pe_lst pa_nil))
  (pss_cons (ps_for PassesOwn.never rfl (pi_listK K rfl (pv 0)) (pg_name (i := 3) sc__numbered.nd rfl (.inl rfl) (.inl rfl))
  (pss_cons (ps_if (pt_cmp (G.r_nin _ rfl rfl hu9 (pv 3) (pv 1)))
  (pss_one (G.r_put _ rfl rfl hu9 (pv 1) (pv 3) (pe_callB (G.r_len _ rfl rfl) (by rfl) T.b_len (by decide +kernel) (pa_cons (pv 1) pa_nil)) rfl))
  (pss_nil))
  (pss_one (ps_expr (pe_bmK K rfl PySem.F.plainAttrs_list PySem.F.slot_list_append PySem.F.type_list_append mt_append (pv 2) (pa_cons (G.r_get _ rfl rfl hu9 (pv 1) (pv 3) (fun _ _ => rfl)) pa_nil))))))
  (pss_one (ps_ret (pv 2))))), ?_⟩
    walk_at "nf"
    -- numbers = {}; out = []
    intro nd o0 hnd mu d0
    refine a_lst0 (x_lstN (by decide) fun od hod => ?_)
    have hod' : H od = none := (((Grow.refl sub).alloc hnd : Gr Z H Z _)).free hod
    have nod : nd ≠ od := ne_of_none upd_same hod
    refine f_list ⟨_, rfl, k_forL (K := K) (Z := Z) hk (fun i σ Hc => ∃ ds x, σ = [some v0, some (.ref nd), some (.ref od), x] ∧ Gr Z H Z Hc ∧ G.dict Hc nd (placeF id 0 ds) ∧ Hc od = some (.lst (vN ((keys.take i).map ds.idxOf))) ∧ Dis (keys.take i) ds)
      ⟨[], none, rfl, ((Grow.refl sub).alloc hnd).alloc hod, G.stay d0 (by rw [upd_ne nod]) (fun b xs e => by rw [upd_ne (ne_of_none e hod)]; exact e), by rw [List.take_zero]; exact upd_same, ⟨List.nodup_nil, by simp, fun k r e => by simp at e⟩⟩
      (fun i σ Hc ⟨_, _, _, g, _⟩ => g.z.trans g.zh) ?_ ?_⟩
    · rintro i key wk σ Hc hi pk ⟨ds, x, rfl, g, hd, ho, D⟩
      have hlen : i < keys.length := (List.getElem?_eq_some_iff.mp hi).1
      have hdl : ds.length ≤ i := by
        have := List.Nodup.length_le_of_subset D.nd (fun z hz => (D.iff z).mp hz : ds ⊆ keys.take i)
        rw [List.length_take] at this
        omega
      have pk' : G.key Hc wk key := G.kstay pk fun b xs e => (g.z.trans g.zh) b _ e
      have tk := take_snoc hi
      refine ⟨_, rfl, _, rfl, nd, _, key, rfl, hd, pk', _, rfl, ?_⟩
      have hv := placeF_val (f := id) (fun x y e => e) 0 ds key
      obtain ⟨on, hon, _⟩ := G.some_ hd
      have hno : nd ≠ od := nod
      -- what is common behind the test
      have fin : ∀ ds' Hc', Gr Z H Z Hc' → G.dict Hc' nd (placeF id 0 ds') → Hc' od = some (.lst (vN ((keys.take i).map ds'.idxOf))) → Dis (keys.take (i + 1)) ds' → key ∈ ds' →
          tDrop (tBM K "list" rAppend (tVar 2) (tCons (tGGet G.dict G.key (tVar 1) (tVar 3)) tNil)) { nx := fun σ Hc => ∃ ds x, σ = [some v0, some (.ref nd), some (.ref od), x] ∧ Gr Z H Z Hc ∧ G.dict Hc nd (placeF id 0 ds) ∧ Hc od = some (.lst (vN ((keys.take (i + 1)).map ds.idxOf))) ∧ Dis (keys.take (i + 1)) ds, rt := Q } [some v0, some (.ref nd), some (.ref od), some wk] Hc' := by
        intro ds' Hc' g' hd' ho' D' hm
        have pk2 : G.key Hc' wk key := G.kstay pk fun b xs e => (g'.z.trans g'.zh) b _ e
        have hv' := placeF_val (f := id) (fun x y e => e) 0 ds' key
        rw [if_pos hm, Nat.zero_add] at hv'
        refine ⟨_, rfl, .inl ⟨rfl, _, SqL.of ho'⟩, _, rfl, _, rfl, nd, _, key, _, rfl, hd', pk2, hv', od, _, _, rfl, rfl, ho', sz6' (by rw [List.length_map, List.length_map, List.length_take]; omega), ?_⟩
        refine ⟨ds', _, rfl, g'.mut (.inl hod') (sub.free hod') ho', G.stay hd' (by rw [upd_ne hno]) (fun b xs e => by rw [upd_ne (ne_of e ho' (fun z => nomatch z))]; exact e), ?_, D'⟩
        rw [upd_same, tk, List.map_append]
        simp [vN]
      by_cases hm : key ∈ ds
      · rw [id, if_pos hm] at hv
        refine ifN (by rw [show valV (placeF id 0 ds) key = _ from hv]; rfl) ?_
        refine fin ds Hc g hd ho ⟨D.nd, fun z => ?_, fun z r e => ?_⟩ hm
        · rw [tk, List.mem_append, ← D.iff]
          exact ⟨.inl, fun h => h.elim id fun h => by rw [List.mem_singleton.mp h]; exact hm⟩
        · rw [tk] at e
          cases hq : keys.take i with
          | nil =>
            have := (D.iff key).mp hm
            rw [hq] at this; cases this
          | cons y t =>
            rw [hq] at e
            injection e with e1 e2
            subst e1
            exact D.first _ _ hq
      · rw [id, if_neg hm] at hv
        refine ifY (by rw [show valV (placeF id 0 ds) key = _ from hv]; rfl) ?_
        -- numbers[key] = len(numbers)
        refine a_one ⟨_, rfl, nd, _, rfl, hd, ⟨_, rfl, _, rfl, nd, _, key, rfl, hd, pk', sz6' (by rw [placeF_len]; omega), fun o' mu' hd' => ?_⟩⟩
        rw [putK_new _ hv, placeF_len] at hd'
        have e1 : placeF id 0 ds ++ [(key, V.int ((ds.length : Nat) : Int))] = placeF id 0 (ds ++ [key]) := by rw [placeF_snoc, Nat.zero_add]; rfl
        rw [e1] at hd'
        refine fin (ds ++ [key]) _ (g.mut (.inl hnd) (sub.free hnd) hon) hd' ?_ ⟨?_, fun z => ?_, fun z r e => ?_⟩ (List.mem_append_right _ (List.mem_singleton.mpr rfl))
        · rw [upd_ne hno.symm, ho]
          congr 3
          refine List.map_congr_left fun z hz => ?_
          rw [List.idxOf_append, if_pos ((D.iff z).mpr hz)]
        · rw [List.nodup_append]
          exact ⟨D.nd, by simp, fun x hx y hy e => hm (by rw [← List.mem_singleton.mp hy, ← e]; exact hx)⟩
        · rw [tk, List.mem_append, List.mem_append, D.iff]
        · rw [tk] at e
          cases hq : keys.take i with
          | nil =>
            rw [hq] at e
            injection e with e1 e2
            subst e1
            have : ds = [] := by
              cases ds with
              | nil => rfl
              | cons y t =>
                have := (D.iff y).mp List.mem_cons_self
                rw [hq] at this; cases this
            subst this
            exact ⟨[], rfl⟩
          | cons y t =>
            rw [hq] at e
            injection e with e1 e2
            subst e1
            obtain ⟨t', et⟩ := D.first _ _ hq
            exact ⟨t' ++ [key], by rw [et]; rfl⟩
    · rintro σ Hc ⟨ds, x, rfl, g, hd, ho, D⟩
      rw [List.take_length] at ho D
      exact ⟨_, rfl, k _ _ Hc ds (g.freeze hod' (sub.free hod') ho) D (isL_vN (Z := upd Z od _) upd_same)⟩
end
end K87

set_option autoImplicit true
set_option Elab.async false
set_option linter.all false
set_option maxRecDepth 100000
set_option maxHeartbeats 4000000
/-! K87Ops3: a comprehension over pairs; tuples of texts as keys. -/
namespace K87
open PySem L2 PySem.Spec PyProof.Rows
section
variable {β : Type} {K : PySem.W.Frag} {q : Rep β} [Mono q] {Z H : Hp} {σ : L2.St} {te : TE} {vs : List Nat} {Q : VK} {v : V} {xs : List Nat} {s t : Nat}
/-- [.. for a, b in l], l a list of pairs -/
theorem k_mapF (f : Nat → β) (hv : isL isF Z v xs) (sub : Same Z H) (hn : xs.length ≤ 1000000) (hs : s ∈ vs) (ht : t ∈ vs)
    (body : ∀ (i : Nat) n x Z1 H1 (R : VK), xs[i]? = some n → Gr Z H Z1 H1 → (∀ y Z5 H5, Gr Z1 H1 Z5 H5 → q Z5 y (f n) → R y H5) → te (((wipe σ vs).set s (some (.int (n : Int)))).set t (some x)) H1 R)
    (fin : ∀ v Z' H', Gr Z H Z' H' → isL q Z' v (xs.map f) → Q v H') :
    LcL K (gTup K 2 (gCons (gName s) (gCons (gName t) gNil))) tYes te vs σ Q v H := by
  obtain ⟨a, us, rfl, ha, pr⟩ := hv
  refine ⟨a, rfl, ⟨us, SqL.of (sub _ _ ha)⟩, ?_⟩
  have hl : us.length = xs.length := Paired.length pr
  refine comp_it (M := Non) (I := fun _ => True) (q := q) (walk_list (K := K) (a := a) (xs := us)) (fun i ys => ys = (xs.take i).map f) sub (by omega) (fun _ z => z.elim) Side.no True.intro (fun Z1 H1 g1 => SqL.of (g1.zh _ _ (g1.z _ _ ha))) (by simp)
    (fun i x Z1 H1 H2 ys R R0 hi g1 _ j hy hR _ => ?_) (fun v Z' H' ys g' _ h j => fin v Z' H' g' (by rw [j, hl, List.take_length] at h; exact h))
  obtain ⟨rfl, hx⟩ := YL hy
  obtain ⟨n, hx', a2, x2, rfl, ha2⟩ := L2.paired_get pr hx
  refine ⟨a2, _, rfl, SqT.of (g1.zh _ _ (g1.z _ _ ha2)), rfl, _, _, rfl, _, _, rfl, rfl, wipe_set2 hs ht, ?_⟩
  refine a_yes (ifY rfl (body i n x2 Z1 H2 R hx' g1 fun y Z5 H5 g5 h => hR y _ Z5 H5 g5 True.intro h ?_))
  rw [j, take_snoc hx', List.map_append]; rfl
end
/-- a tuple of texts as a key -/
def tKey (told : List Str) : NestedKey := .tup (told.map .text)
theorem tKey_inj (a b : List Str) (h : tKey a = tKey b) : a = b := by
  unfold tKey at h
  injection h with h
  have := congrArg (List.map fun k => match k with | NestedKey.text x => x | _ => Str.empty) h
  rw [List.map_map, List.map_map] at this
  have e : ∀ l : List Str, l.map ((fun k => match k with | NestedKey.text x => x | _ => Str.empty) ∘ NestedKey.text) = l := fun l => by
    induction l with
    | nil => rfl
    | cons x l ih => rw [List.map_cons, ih]; rfl
  rw [e, e] at this
  exact this
theorem depth_texts (l : List Str) : NestedKey.depthAll (l.map NestedKey.text) = 0 := by
  induction l with
  | nil => rfl
  | cons a l ih => show max (NestedKey.depth _) (NestedKey.depthAll _) = 0; rw [ih]; rfl
theorem keyNs_texts {Z : Hp} : ∀ {vs : List V} {l : List Str}, Paired (isS Z) vs l → KeyNs Z vs (l.map NestedKey.text)
  | _, _, .nil => .nil
  | _, _, .cons r t => by
    cases r
    exact .cons (.str _) (keyNs_texts t)
theorem tKey_of {P : Program} {w : World} {Z : Hp} {v : V} {told : List Str} (h : isT isS Z v told) : (gkNested P w).key Z v (tKey told) := by
  obtain ⟨a, vs, rfl, ha, pr⟩ := h
  refine ⟨.tup ha (keyNs_texts pr), ?_, a, rfl⟩
  show NestedKey.depthAll (told.map NestedKey.text) + 1 ≤ 8
  rw [depth_texts]; decide
end K87

set_option autoImplicit true
set_option Elab.async false
set_option linter.all false
set_option maxRecDepth 100000
set_option maxHeartbeats 4000000
set_option pp.deepTerms.threshold 6
/-! K87D3: kept_rows, _chosen. -/
namespace K87
open PySem L2 PySem.Spec PyProof.Rows
section
local macro_rules | `(tactic| walk_at "nf") => `(tactic| try dsimp only [tSeq, tAsg, gName, tRet, tRetN, tDrop, tNext, tIfS, tTest, tB, tOp, tUn, tNil, tCons, tCB, tC, tAnd, tOr, tNot, tAndV, tOrV, tNotV, tIf, sDPut, sFld, sFldAug, tM0, tM1, tBM, tBM0, tMeth, tMake, tCall, sGPut, tGGet, tGNin, tDGet, tDNotIn, tDIn, tFld])
variable {P : Program} {w : World} {K : PySem.W.Frag} {mg : Str → Option Value} {base : Heap}

def spKept : Sp := fun vs H Q _ => ∃ (Z : Hp) (v0 v1 : V) (rows : List (List Nat)) (os : List Nat), vs = [v0, v1] ∧ Same Z H ∧ isL (isL isN) Z v0 rows ∧ isL isN Z v1 os ∧ Wide rows ∧ os.Nodup ∧ (∀ s ∈ os, s < rows.length) ∧ (∀ s ∈ os, ∀ o ∈ rows.getD s [], o ∈ os) ∧
  (∀ row ∈ rows, row.length ≤ 10000) ∧ ∀ v Z' H', Gr Z H Z' H' → isL (isL isN) Z' v (keptRows rows os) → Q v H'
abbrev N_kept_rows : List Str := ["rows", "order", "place", "at", "state", "other"]
theorem sc_kept_rows : FnScope N_kept_rows ["rows", "order"] (defScope (top 3)) := ⟨rfl, rfl, rfl, by decide +kernel, rfl, by decide +kernel, by decide +kernel⟩
theorem ok_kept_rows (T : Txt K mg) : FnOk P w K mg base CX0 1 T.d_kept_rows.f T.d_kept_rows.fd ["rows", "order"] spKept := by
  refine T.d_kept_rows.fn.ok sc_kept_rows (fun vs H Q E h => ?_) (fun cdv A outer s H vs Q E hr h => ?_)
  · obtain ⟨Z, v0, v1, rows, os, rfl, _⟩ := h
    rfl
  · obtain ⟨Z, v0, v1, rows, os, rfl, sub, hrows, hos, wd, nd, hlt, hcl, hw, k⟩ := h
    have hu := hu_of hr
    have hl : os.length ≤ rows.length := nodup_lt_length nd hlt
    have hf := wd.few
    refine ⟨_, pss_cons (ps_set (i := 2) sc_kept_rows.nd rfl (.inr rfl) (pe_dc (own := [("at", 3), ("state", 4)]) rfl sc_kept_rows.nd (pi_enumK K rfl (by rfl) T.b_enumerate (pa_cons (pv 1) pa_nil)) (blkOk_by (N := N_kept_rows) (sc := defScope (top 3)) (by decide +kernel)) (fun _ _ _ _ _ => pg_tupK (n := 2) K rfl rfl (pgs_cons (pg_name (i := 3) sc_kept_rows.nd rfl (.inl rfl) (.inr rfl)) (pgs_cons (pg_name (i := 4) sc_kept_rows.nd rfl (.inl rfl) (.inr rfl)) pgs_nil))) (fun _ _ _ _ _ => pts_nil) (fun _ _ _ _ _ => pv 4) (fun _ _ _ _ _ => pv 3)))
  (pss_one (ps_ret (pe_lc (own := [("state", 4)]) rfl sc_kept_rows.nd (pi_listK K rfl (pv 1)) (blkOk_by (N := N_kept_rows) (sc := defScope (top 3)) (by decide +kernel)) (fun _ _ _ _ _ => pg_name (i := 4) sc_kept_rows.nd rfl (.inl rfl) (.inr rfl)) (fun _ _ _ _ _ => pts_nil) (fun _ _ _ _ _ => pe_lc (own := [("other", 5)]) rfl sc_kept_rows.nd (pi_listK K rfl (pe_ix (ix_listK K rfl) (pv 0) (pv 4) (fun _ _ => rfl))) (blkOk_in (N := N_kept_rows) (sc0 := defScope (top 3)) rfl rfl (by decide +kernel)) (fun _ _ _ _ _ => pg_name (i := 5) sc_kept_rows.nd rfl (.inl rfl) (.inr rfl)) (fun _ _ _ _ _ => pts_nil) (fun _ _ _ _ _ => pe_dget hu (pv 2) (pv 5) (fun _ _ => rfl)))))), ?_⟩
    walk_at "nf"
    -- the places of the states
    refine d_enum ⟨_, rfl, k_place (K := K) rfl hos nd sub (by decide) (by decide) (by decide) rfl rfl (by omega) fun pd Z1 H1 g1 hp0 zp hp => ?_⟩
    -- [[place[other] for other in rows[state]] for state in order]
    refine c_list ⟨_, rfl, k_mapL (K := K) (p := isN) (q := isL isN) (fun s => (rows.getD s []).map os.idxOf) (Mono.mono g1.z hos) g1.zh (by omega) (by decide) (fun i x wx Z2 H2 R hx px g2 hR => ?_) (fun v Z' H' g' hv => k v Z' H' (g1.trans g') hv)⟩
    obtain rfl : wx = .int (x : Int) := px
    have mx := List.mem_of_getElem? hx
    have hrow : rows[x]? = some (rows.getD x []) := get_of (hlt x mx)
    refine c_list ⟨_, rfl, _, rfl, x_ix (Mono.mono (g1.z.trans g2.z) hrows) g2.zh hrow fun wr hwr => ?_⟩
    refine k_mapL (K := K) (p := isN) (q := isN) os.idxOf (Mono.mono (Same.refl _) hwr) g2.zh (by have := hw _ (List.mem_of_getElem? hrow); omega) (by decide) (fun j y wy Z3 H3 R3 hy py g3 hR3 => ?_) (fun v Z3 H3 g3 hv => hR v Z3 H3 g3 hv)
    obtain rfl : wy = .int (y : Int) := py
    have my : y ∈ os := hcl x mx y (List.mem_of_getElem? hy)
    have hp3 := g3.keepH (g2.keepH hp)
    have hval := placeF_val (f := kN) kN_inj 0 os y
    rw [if_pos my, Nat.zero_add] at hval
    exact ⟨_, rfl, _, rfl, pd, _, rfl, hval ▸ DGet.k (k := kN y) hp3, hR3 _ Z3 H3 (Grow.refl g3.zh) rfl⟩

def spChosen : Sp := fun vs H Q _ => ∃ (Z : Hp) (v0 v1 : V) (rows : List (List Nat)) (parts : List Nat) (m : Nat), vs = [v0, v1] ∧ Same Z H ∧ isL (isL isN) Z v0 rows ∧ isL isN Z v1 parts ∧ Wide rows ∧ parts.length = rows.length ∧ Parts parts m ∧ m ≤ 10000 ∧
  (∀ row ∈ rows, row.length ≤ 10000) ∧ ∀ v Z' H', Gr Z H Z' H' → isP (isL isN) (isL (isL isN)) Z' v (firsts parts m, classRows rows parts m) → Q v H'
abbrev N__chosen : List Str := ["rows", "parts", "firsts", "part", "other", "state"]
theorem sc__chosen : FnScope N__chosen ["rows", "parts"] (defScope (top 7)) := ⟨rfl, rfl, rfl, by decide +kernel, rfl, by decide +kernel, by decide +kernel⟩
theorem ok__chosen (T : Txt K mg) : FnOk P w K mg base CX0 1 T.d__chosen.f T.d__chosen.fd ["rows", "parts"] spChosen := by
  refine T.d__chosen.fn.ok sc__chosen (fun vs H Q E h => ?_) (fun cdv A outer s H vs Q E hr h => ?_)
  · obtain ⟨Z, v0, v1, rows, parts, m, rfl, _⟩ := h
    rfl
  · obtain ⟨Z, v0, v1, rows, parts, m, rfl, sub, hrows, hparts, wd, hlen, pm, hm, hw, k⟩ := h
    have hf := wd.few
    refine ⟨_, pss_cons (ps_setLc (i := 2) (own := [("part", 3)]) rfl sc__chosen.nd rfl rfl (sw_true rfl rfl rfl (by decide +kernel)) (pi_range1 (by rfl) T.b_range (pa_cons (pe_op op_add (pe_callB (cr_maxK K rfl rfl) (by rfl) T.b_max (by decide +kernel) (pa_cons (pv 1) pa_nil)) (pe_int)) pa_nil)) (blkOk_by (N := N__chosen) (sc := defScope (top 7)) (by decide +kernel)) (fun _ _ _ _ _ => pg_name (i := 3) sc__chosen.nd rfl (.inl rfl) (.inr rfl)) (fun _ _ _ _ _ => pts_nil) (fun _ _ _ _ _ => pe_bmK K rfl PySem.F.plainAttrs_list PySem.F.slot_list_index PySem.F.type_list_index (mt_indexK K rfl) (pv 1) (pa_cons (pv 3) pa_nil)))
  (pss_one (ps_ret (pe_tup (pa_cons (pv 2) (pa_cons (pe_lc (own := [("state", 5)]) rfl sc__chosen.nd (pi_listK K rfl (pv 2)) (blkOk_by (N := N__chosen) (sc := defScope (top 7)) (by decide +kernel)) (fun _ _ _ _ _ => pg_name (i := 5) sc__chosen.nd rfl (.inl rfl) (.inr rfl)) (fun _ _ _ _ _ => pts_nil) (fun _ _ _ _ _ => pe_lc (own := [("other", 4)]) rfl sc__chosen.nd (pi_listK K rfl (pe_ix (ix_listK K rfl) (pv 0) (pv 5) (fun _ _ => rfl))) (blkOk_in (N := N__chosen) (sc0 := defScope (top 7)) rfl rfl (by decide +kernel)) (fun _ _ _ _ _ => pg_name (i := 4) sc__chosen.nd rfl (.inl rfl) (.inr rfl)) (fun _ _ _ _ _ => pts_nil) (fun _ _ _ _ _ => pe_ix (ix_listK K rfl) (pv 1) (pv 4) (fun _ _ => rfl)))) pa_nil))))), ?_⟩
    walk_at "nf"
    refine c_range ?_
    walk_at "nf"
    refine ⟨_, rfl, x_max hparts sub ((pm.mem m).mpr (Nat.le_refl _)) (fun x hx => (pm.mem x).mp hx) ⟨_, _, rfl, rfl, ?_⟩⟩
    refine k_mapR (n := m + 1) (q := isN) parts.idxOf rfl sub (by omega) (by decide) (fun i Z1 H1 R hi g1 hR => ?_) (fun vf Z1 H1 g1 hvf => ?_)
    · exact ⟨_, rfl, (x_index (Mono.mono g1.z hparts) g1.zh ((pm.mem i).mpr (by omega)) (hR _ Z1 H1 (Grow.refl g1.zh) rfl)).1, _, rfl, (x_index (K := K) (Mono.mono g1.z hparts) g1.zh ((pm.mem i).mpr (by omega)) (hR _ Z1 H1 (Grow.refl g1.zh) rfl)).2⟩
    · have hfl : ∀ x ∈ firsts parts m, x < rows.length := by
        intro x hx
        obtain ⟨c, hc, rfl⟩ := List.mem_map.mp hx
        rw [← hlen]
        exact List.idxOf_lt_length_of_mem ((pm.mem c).mpr (by have := List.mem_range.mp hc; omega))
      refine ⟨_, rfl, c_list ⟨_, rfl, ?_⟩⟩
      refine k_mapL (K := K) (p := isN) (q := isL isN) (xs := firsts parts m) (fun s => (rows.getD s []).map fun o => parts.getD o 0) hvf g1.zh (by unfold firsts; rw [List.length_map, List.length_range]; omega) (by decide) (fun i x wx Z2 H2 R hx px g2 hR => ?_) (fun vr Z2 H2 g2 hvr => ?_)
      · obtain rfl : wx = .int (x : Int) := px
        have mx := hfl x (List.mem_of_getElem? hx)
        have hrow : rows[x]? = some (rows.getD x []) := get_of mx
        refine c_list ⟨_, rfl, _, rfl, x_ix (Mono.mono (g1.z.trans g2.z) hrows) g2.zh hrow fun wr hwr => ?_⟩
        refine k_mapL (K := K) (p := isN) (q := isN) (fun o => parts.getD o 0) hwr g2.zh (by have := hw _ (List.mem_of_getElem? hrow); omega) (by decide) (fun j y wy Z3 H3 R3 hy py g3 hR3 => ?_) (fun v Z3 H3 g3 hv => hR v Z3 H3 g3 hv)
        obtain rfl : wy = .int (y : Int) := py
        have my : y < rows.length := wd.lt _ (List.mem_of_getElem? hrow) y (List.mem_of_getElem? hy)
        exact ⟨_, rfl, _, rfl, x_ix (Mono.mono ((g1.z.trans g2.z).trans g3.z) hparts) g3.zh (get_of (d := 0) (by omega)) fun w hw => hR3 w Z3 H3 (Grow.refl g3.zh) hw⟩
      · refine ⟨by show 2 ≤ sizeLine; decide, fun t ht => ?_⟩
        have g3 := g2.allocZ (o := .tup [vf, vr]) ht
        exact k _ _ _ (g1.trans g3) ⟨t, vf, vr, rfl, upd_same, Mono.mono g3.z hvf, Mono.mono (same_upd (g2.zh.free ht)) hvr⟩
end
end K87

set_option autoImplicit true
set_option Elab.async false
set_option linter.all false
set_option maxRecDepth 100000
set_option maxHeartbeats 4000000
set_option pp.deepTerms.threshold 6
/-! K87D4: classes. -/
namespace K87
open PySem L2 PySem.Spec PyProof.Rows
section
local macro_rules | `(tactic| walk_at "nf") => `(tactic| try dsimp only [tSeq, tAsg, gName, tRet, tRetN, tDrop, tNext, tIfS, tTest, tB, tOp, tUn, tNil, tCons, tCB, tC, tAnd, tOr, tNot, tAndV, tOrV, tNotV, tIf, sDPut, sFld, sFldAug, tM0, tM1, tBM, tBM0, tMeth, tMake, tCall, sGPut, tGGet, tGNin, tDGet, tDNotIn, tDIn, tFld])
variable {P : Program} {w : World} {K : PySem.W.Frag} {mg : Str → Option Value} {base : Heap}

/-- the key of a state: its class, and the classes that letters lead to -/
def kOf (parts : List Nat) (s : Nat) (row : List Nat) : NestedKey := .tup [.num ((parts.getD s 0 : Nat) : Int), .tup (row.map fun o => .num ((parts.getD o 0 : Nat) : Int))]
theorem depth_nums (l : List Nat) : NestedKey.depthAll (l.map fun n => NestedKey.num ((n : Nat) : Int)) = 0 := by
  induction l with
  | nil => rfl
  | cons a l ih => show max (NestedKey.depth _) (NestedKey.depthAll _) = 0; rw [ih]; rfl
theorem kOf_depth (parts : List Nat) (s : Nat) (row : List Nat) : (kOf parts s row).depth ≤ 8 := by
  have := depth_nums (row.map fun o => parts.getD o 0)
  rw [List.map_map] at this
  show max 0 (max (NestedKey.depthAll (row.map ((fun n => NestedKey.num ((n : Nat) : Int)) ∘ fun o => parts.getD o 0)) + 1) 0) + 1 ≤ 8
  rw [this]; decide
theorem keyNs_nums {Z : Hp} (l : List Nat) : KeyNs Z (vN l) (l.map fun n => NestedKey.num ((n : Nat) : Int)) := by
  induction l with
  | nil => exact .nil
  | cons a l ih => exact .cons (.int _) ih
theorem kOf_inj {parts : List Nat} {s t : Nat} {r r' : List Nat} (h : kOf parts s r = kOf parts t r') : parts.getD s 0 = parts.getD t 0 ∧ (r.map fun o => parts.getD o 0) = r'.map fun o => parts.getD o 0 := by
  unfold kOf at h
  injection h with h
  injection h with h1 h2
  injection h2 with h2 _
  injection h1 with h1
  injection h2 with h2
  refine ⟨by omega, ?_⟩
  have := congrArg (List.map fun k => match k with | NestedKey.num i => i.toNat | _ => 0) h2
  rw [List.map_map, List.map_map] at this
  exact this
/-- what holds of the numbering ahead of each test -/
structure PI {κ : Type} (rows : List (List Nat)) (marks : List κ) (parts : List Nat) (m : Nat) : Prop where
  len : parts.length = rows.length
  pm : Parts parts m
  zero : parts.getD 0 0 = 0
  mark : ∀ s t, s < rows.length → t < rows.length → parts.getD s 0 = parts.getD t 0 → marks[s]? = marks[t]?
def spClasses {κ : Type} [DecidableEq κ] (G : GK P w κ) : Sp := fun vs H Q _ => ∃ (Z : Hp) (v0 v1 : V) (rows : List (List Nat)) (marks : List κ), vs = [v0, v1] ∧ Same Z H ∧ isL (isL isN) Z v0 rows ∧ isL G.key Z v1 marks ∧ Wide rows ∧ marks.length = rows.length ∧ 0 < rows.length ∧
  (∀ row ∈ rows, row.length ≤ 10000) ∧ ∀ v Z' H' parts m, Gr Z H Z' H' → Alike rows marks parts m → isL isN Z' v parts → Q v H'
abbrev N_classes : List Str := ["rows", "marks", "parts", "count", "keys", "other", "state", "row"]
theorem sc_classes : FnScope N_classes ["rows", "marks"] (defScope (top 6)) := ⟨rfl, rfl, rfl, by decide +kernel, rfl, by decide +kernel, by decide +kernel⟩
theorem ok_classes {κ : Type} [DecidableEq κ] (T : Txt K mg) (G : GK P w κ) : FnOk P w K mg base CX0 2 T.d_classes.f T.d_classes.fd ["rows", "marks"] (spClasses G) := by
  refine T.d_classes.fn.ok sc_classes (fun vs H Q E h => ?_) (fun cdv A outer s H vs Q E hr h => ?_)
  · obtain ⟨Z, v0, v1, rows, marks, rfl, _⟩ := h
    rfl
  · obtain ⟨Z, v0, v1, rows, marks, rfl, sub, hrows, hmarks, wd, hml, h0, hw, k⟩ := h
    have few := wd.few
    refine ⟨_, pss_cons (ps_set (i := 2) sc_classes.nd rfl (.inr rfl) (pe_call (ok__numbered T G) (hr.mono (by decide)) (by rfl) T.d__numbered.mg T.d__numbered.fn.kp T.d__numbered.b .nil pass0 (pa_cons (pv 1) pa_nil)))
  (pss_cons (ps_set (i := 3) sc_classes.nd rfl (.inl rfl) (pe_un un_neg (pe_int)))
  (pss_cons (ps_while PassesOwn.never (pt_cmpR op_ne (pv 3) (pe_callB (cr_maxK K rfl rfl) (by rfl) T.b_max (by decide +kernel) (pa_cons (pv 2) pa_nil)) (nomark _))
  (pss_cons (ps_set (i := 3) sc_classes.nd rfl (.inl rfl) (pe_callB (cr_maxK K rfl rfl) (by rfl) T.b_max (by decide +kernel) (pa_cons (pv 2) pa_nil)))
  (pss_cons (ps_setLc (i := 4) (own := [("state", 6), ("row", 7)]) rfl sc_classes.nd rfl rfl (sw_true rfl rfl rfl (by decide +kernel)) (pi_enumK K rfl (by rfl) T.b_enumerate (pa_cons (pv 0) pa_nil)) (blkOk_by (N := N_classes) (sc := defScope (top 6)) (by decide +kernel)) (fun _ _ _ _ _ => pg_tupK (n := 2) K rfl rfl (pgs_cons (pg_name (i := 6) sc_classes.nd rfl (.inl rfl) (.inr rfl)) (pgs_cons (pg_name (i := 7) sc_classes.nd rfl (.inl rfl) (.inr rfl)) pgs_nil))) (fun _ _ _ _ _ => pts_nil) (fun _ _ _ _ _ => pe_tup (pa_cons (pe_ix (ix_listK K rfl) (pv 2) (pv 6) (fun _ _ => rfl)) (pa_cons (pe_callTy (call_tuple_ofK K rfl) (by rfl) T.b_tuple (by decide +kernel) (pa_cons (pe_lc (own := [("other", 5)]) rfl sc_classes.nd (pi_listK K rfl (pv 7)) (blkOk_in (N := N_classes) (sc0 := defScope (top 6)) rfl rfl (by decide +kernel)) (fun _ _ _ _ _ => pg_name (i := 5) sc_classes.nd rfl (.inl rfl) (.inr rfl)) (fun _ _ _ _ _ => pts_nil) (fun _ _ _ _ _ => pe_ix (ix_listK K rfl) (pv 2) (pv 5) (fun _ _ => rfl))) pa_nil)) pa_nil))))
  (pss_one (ps_set (i := 2) sc_classes.nd rfl (.inr rfl) (pe_call (ok__numbered T (gkNested P w)) (hr.mono (by decide)) (by rfl) T.d__numbered.mg T.d__numbered.fn.kp T.d__numbered.b .nil pass0 (pa_cons (pv 4) pa_nil)))))))
  (pss_one (ps_ret (pv 2))))), ?_⟩
    walk_at "nf"
    -- parts = _numbered(marks)
    refine ⟨_, rfl, Z, v1, marks, rfl, sub, hmarks, by omega, fun vp Z1 H1 ds g1 D hp => ?_⟩
    refine ⟨1, rfl, ?_⟩
    have mne : marks ≠ [] := by intro e; rw [e] at hml; simp at hml; omega
    have P0 : PI rows marks (marks.map ds.idxOf) (ds.length - 1) := ⟨by rw [List.length_map, hml], D.parts mne, D.zero, fun s t hs ht e => (D.eq (by omega) (by omega)).mp e⟩
    refine ⟨fun m σ Hc => ∃ (parts : List Nat) (mx : Nat) (vp : V) (c : Int) (Zc : Hp) (e4 e5 e6 e7 : Option V), σ = [some v0, some v1, some vp, some (.int c), e4, e5, e6, e7] ∧ Gr Z H Zc Hc ∧ isL isN Zc vp parts ∧ PI rows marks parts mx ∧
        (c = -1 ∨ ∃ prev mp, PI rows marks prev mp ∧ c = (mp : Int) ∧ ∀ s t, s < rows.length → t < rows.length → (parts.getD s 0 = parts.getD t 0 ↔ prev.getD s 0 = prev.getD t 0 ∧ ((rows.getD s []).map fun o => prev.getD o 0) = (rows.getD t []).map fun o => prev.getD o 0)) ∧ m = (rows.length - c).toNat,
      ⟨_, marks.map ds.idxOf, _, vp, -1, Z1, none, none, none, none, rfl, g1, hp, P0, .inl rfl, rfl⟩, ?_⟩
    rintro m σ Hc ⟨parts, mx, vp, c, Zc, e4, e5, e6, e7, rfl, g, hpt, PP, hc, rfl⟩
    have maxm : mx ∈ parts := (PP.pm.mem mx).mpr (Nat.le_refl _)
    have maxu : ∀ x ∈ parts, x ≤ mx := fun x hx => (PP.pm.mem x).mp hx
    have mxl : mx + 1 ≤ rows.length := by
      have := List.Nodup.length_le_of_subset (List.nodup_range (n := mx + 1)) (l₂ := parts) fun x hx => (PP.pm.mem x).mpr (by have := List.mem_range.mp hx; omega)
      rw [List.length_range, PP.len] at this
      exact this
    have cle : c ≤ (mx : Int) := by
      rcases hc with hc | ⟨prev, mp, PV, hc, ref⟩
      · omega
      · have := parts_le (by rw [PV.len, PP.len]) PV.pm PP.pm fun s t hs ht e => ((ref s t (by rw [← PV.len]; exact hs) (by rw [← PV.len]; exact ht)).mp e).1
        omega
    walk_at "nf"
    refine ⟨_, rfl, _, rfl, x_max hpt g.zh maxm maxu ⟨rfl, _, rfl, ?_⟩⟩
    by_cases hcm : c = (mx : Int)
    · -- the end
      refine ifN (by rw [hcm]; simp) ⟨vp, rfl, k vp Zc Hc parts mx g ⟨PP.len, PP.pm, PP.zero, PP.mark, fun s t hs ht e => ?_⟩ hpt⟩
      rcases hc with hc | ⟨prev, mp, PV, hc, ref⟩
      · omega
      · have em : mp = mx := by omega
        subst em
        have r1 : ∀ s t, s < prev.length → t < prev.length → parts.getD s 0 = parts.getD t 0 → prev.getD s 0 = prev.getD t 0 := fun s t hs ht e => ((ref s t (by rw [← PV.len]; exact hs) (by rw [← PV.len]; exact ht)).mp e).1
        have r2 : ∀ s t, s < rows.length → t < rows.length → prev.getD s 0 = prev.getD t 0 → parts.getD s 0 = parts.getD t 0 := fun s t hs ht e =>
          parts_eq (by rw [PV.len, PP.len]) PV.pm PP.pm r1 (by rw [PV.len]; exact hs) (by rw [PV.len]; exact ht) e
        have e2 := ((ref s t hs ht).mp e).2
        have hls : (rows.getD s []).length = (rows.getD t []).length := by
          have := congrArg List.length e2
          rwa [List.length_map, List.length_map] at this
        refine List.ext_getElem? fun i => ?_
        rw [List.getElem?_map, List.getElem?_map]
        by_cases hi : i < (rows.getD s []).length
        · have hi' : i < (rows.getD t []).length := by omega
          have e3 := congrArg (fun l : List Nat => l[i]?) e2
          simp only [List.getElem?_map, List.getElem?_eq_getElem hi, List.getElem?_eq_getElem hi', Option.map_some, Option.some.injEq] at e3
          rw [List.getElem?_eq_getElem hi, List.getElem?_eq_getElem hi']
          simp only [Option.map_some, Option.some.injEq]
          exact r2 _ _ (wd.lt _ (getD_mem hs) _ (List.getElem_mem hi)) (wd.lt _ (getD_mem ht) _ (List.getElem_mem hi')) e3
        · rw [List.getElem?_eq_none (by omega), List.getElem?_eq_none (by omega)]
    · refine ifY (by simp [hcm]) ⟨_, fun _ _ h => h, ?_⟩
      -- count = max(parts)
      refine ⟨_, rfl, x_max hpt g.zh maxm maxu ?_⟩
      -- keys
      refine c_enum ⟨_, rfl, k_mapE (K := K) (p := isL isN) (q := ((gkNested P w).key : Rep NestedKey)) (fun i row => kOf parts i row) rfl (Mono.mono g.z hrows) g.zh (by omega) (by decide) (by decide) (fun i row wr Z2 H2 R hi pr g2 hR => ?_) (fun vk Z2 H2 g2 hk => ?_)⟩
      · have hil : i < rows.length := (List.getElem?_eq_some_iff.mp hi).1
        have hpi : parts[i]? = some (parts.getD i 0) := get_of (by rw [PP.len]; exact hil)
        have mrow := List.mem_of_getElem? hi
        refine a_tup2 ?_
        walk_at "nf"
        refine ⟨_, rfl, _, rfl, x_ix (Mono.mono g2.z hpt) g2.zh hpi fun wp hwp => ?_⟩
        obtain rfl : wp = .int ((parts.getD i 0 : Nat) : Int) := hwp
        refine c_list ⟨_, rfl, k_mapL (K := K) (p := isN) (q := isN) (fun o => parts.getD o 0) pr g2.zh (by have := hw row mrow; omega) (by decide) (fun j y wy Z3 H3 R3 hy py g3 hR3 => ?_) (fun vl Z3 H3 g3 hvl => ?_)⟩
        · obtain rfl : wy = .int (y : Int) := py
          have my : y < rows.length := wd.lt _ mrow y (List.mem_of_getElem? hy)
          exact ⟨_, rfl, _, rfl, x_ix (Mono.mono (g2.z.trans g3.z) hpt) g3.zh (get_of (d := 0) (by rw [PP.len]; exact my)) fun w hw => hR3 w Z3 H3 (Grow.refl g3.zh) hw⟩
        · refine x_tupOf hvl g3.zh fun vt Z4 H4 g4 hvt => ?_
          refine ⟨by show 2 ≤ sizeLine; decide, fun t ht => ?_⟩
          have g5 := ((Grow.refl g4.zh : Gr Z4 H4 Z4 H4).allocZ (o := .tup [V.int ((parts.getD i 0 : Nat) : Int), vt]) ht)
          refine hR _ _ _ ((g3.trans g4).trans g5) ⟨.tup upd_same (.cons (.int _) (.cons ?_ .nil)), kOf_depth _ _ _, t, rfl⟩
          obtain ⟨a, rfl, ha⟩ := isT_N.mp hvt
          have := keyNs_nums (Z := upd Z4 t (.tup [V.int ((parts.getD i 0 : Nat) : Int), V.ref a])) (row.map fun o => parts.getD o 0)
          rw [List.map_map] at this
          exact .tup (g5.z _ _ ha) this
      · -- parts = _numbered(keys)
        have g2' := g.trans g2
        refine ⟨_, rfl, Z2, vk, _, rfl, g2.zh, hk, by rw [List.length_mapIdx]; omega, fun vq Z3 H3 ds' g3 D' hq => ?_⟩
        have kne : rows.mapIdx (fun i row => kOf parts i row) ≠ [] := by intro e; have := congrArg List.length e; rw [List.length_mapIdx] at this; simp only [List.length_nil] at this; omega
        have kat : ∀ s, s < rows.length → (rows.mapIdx (fun i row => kOf parts i row))[s]? = some (kOf parts s (rows.getD s [])) := fun s hs => by
          rw [List.getElem?_mapIdx, get_of (d := []) hs]; rfl
        have hiff : ∀ s t, s < rows.length → t < rows.length → (((rows.mapIdx (fun i row => kOf parts i row)).map ds'.idxOf).getD s 0 = ((rows.mapIdx (fun i row => kOf parts i row)).map ds'.idxOf).getD t 0 ↔ parts.getD s 0 = parts.getD t 0 ∧ ((rows.getD s []).map fun o => parts.getD o 0) = (rows.getD t []).map fun o => parts.getD o 0) := fun s t hs ht => by
          rw [D'.eq (by rw [List.length_mapIdx]; exact hs) (by rw [List.length_mapIdx]; exact ht), kat s hs, kat t ht]
          refine ⟨fun e => kOf_inj (Option.some.inj e), fun e => ?_⟩
          unfold kOf
          rw [e.1]
          have e2 := congrArg (List.map fun n => NestedKey.num ((n : Nat) : Int)) e.2
          rw [List.map_map, List.map_map] at e2
          exact congrArg some (congrArg (fun l => NestedKey.tup [_, NestedKey.tup l]) e2)
        refine ⟨(rows.length - (mx : Int)).toNat, by omega, _, ds'.length - 1, vq, (mx : Int), Z3, _, _, _, _, rfl, g2'.trans g3, hq, ⟨by rw [List.length_map, List.length_mapIdx], D'.parts kne, D'.zero, fun s t hs ht e => PP.mark s t hs ht ((hiff s t hs ht).mp e).1⟩, .inr ⟨parts, mx, PP, rfl, hiff⟩, rfl⟩
end
end K87

set_option autoImplicit true
set_option Elab.async false
set_option linter.all false
set_option maxRecDepth 100000
set_option maxHeartbeats 4000000
set_option pp.deepTerms.threshold 6
/-! K87D5: reached_in_front. -/
namespace K87
open PySem L2 PySem.Spec PyProof.Rows
section
local macro_rules | `(tactic| walk_at "nf") => `(tactic| try dsimp only [tSeq, tAsg, gName, tRet, tRetN, tDrop, tNext, tIfS, tTest, tB, tOp, tUn, tNil, tCons, tCB, tC, tAnd, tOr, tNot, tAndV, tOrV, tNotV, tIf, sDPut, sFld, sFldAug, tM0, tM1, tBM, tBM0, tMeth, tMake, tCall, sGPut, tGGet, tGNin, tDGet, tDNotIn, tDIn, tFld])
variable {P : Program} {w : World} {K : PySem.W.Frag} {mg : Str → Option Value} {base : Heap}

def spRF : Sp := fun vs H Q _ => ∃ (Z : Hp) (v0 : V) (rows : List (List Nat)) (start r : Nat), vs = [v0, .int (start : Int), .int (r : Int)] ∧ Same Z H ∧ isL (isL isN) Z v0 rows ∧ Wide rows ∧ start < rows.length ∧ (∀ row ∈ rows, row.length = r) ∧ r ≤ 10000 ∧
  ∀ v Z' H' os, Gr Z H Z' H' → Closed rows start os → isL isF Z' v os → Q v H'
/-- the state: order holds os, found's keys are os and the fresh ones fr -/
structure RFH (Z H : Hp) (rows : List (List Nat)) (start : Nat) (fd od : Addr) (os fr : List Nat) (Z1 Hc : Hp) : Prop where
  gr : Gr Z H Z1 Hc
  zf : Z1 fd = none
  zo : Z1 od = none
  kv : ∃ kvs, Hc fd = some (.dK kvs) ∧ FD Z1 (os ++ fr).length kvs (os ++ fr)
  od : Hc od = some (.lst (vN os))
  first : ∃ r, os = start :: r
  nd : (os ++ fr).Nodup
  lt : ∀ s ∈ os ++ fr, s < rows.length
abbrev N_reached_in_front : List Str := ["rows", "start", "letters", "found", "order", "level", "fresh", "k", "state", "other"]
theorem sc_reached_in_front : FnScope N_reached_in_front ["rows", "start", "letters"] (defScope (top 2)) := ⟨rfl, rfl, rfl, by decide +kernel, rfl, by decide +kernel, by decide +kernel⟩
theorem ok_reached_in_front (T : Txt K mg) : FnOk P w K mg base CX0 1 T.d_reached_in_front.f T.d_reached_in_front.fd ["rows", "start", "letters"] spRF := by
  refine T.d_reached_in_front.fn.ok sc_reached_in_front (fun vs H Q E h => ?_) (fun cdv A outer s H vs Q E hr h => ?_)
  · obtain ⟨Z, v0, rows, start, r, rfl, _⟩ := h
    rfl
  · obtain ⟨Z, v0, rows, start, r, rfl, sub, hrows, wd, hst, hrl, hr10, k⟩ := h
    have hu := hu_of hr
    have few := wd.few
    refine ⟨_, pss_cons (ps_set (i := 3) sc_reached_in_front.nd rfl (.inr rfl) (pe_disp (pps_cons (pv 1) (pe_tup pa_nil) pps_nil) (by rfl) (by rfl) (fun z => by cases z) (by decide)))
  (pss_cons (ps_set (i := 4) sc_reached_in_front.nd rfl (.inl rfl) (pe_lst (pa_cons (pv 1) pa_nil)))
  (pss_cons (ps_set (i := 5) sc_reached_in_front.nd rfl (.inl rfl) (pe_lst (pa_cons (pv 1) pa_nil)))
  (pss_cons (ps_while PassesOwn.never (pt_truthK K rfl (pv 5) (by intro _; rfl))
  (pss_cons (ps_set (i := 6) sc_reached_in_front.nd rfl (.inl rfl) (pe_lst pa_nil))
  (pss_cons (ps_for PassesOwn.never rfl (pi_range1 (by rfl) T.b_range (pa_cons (pv 2) pa_nil)) (pg_name (i := 7) sc_reached_in_front.nd rfl (.inl rfl) (.inl rfl))
  (pss_one (ps_for PassesOwn.never rfl (pi_listK K rfl (pv 5)) (pg_name (i := 8) sc_reached_in_front.nd rfl (.inl rfl) (.inl rfl))
  (pss_cons (ps_set (i := 9) sc_reached_in_front.nd rfl (.inl rfl) (pe_ix (ix_listK K rfl) (pe_ix (ix_listK K rfl) (pv 0) (pv 8) (fun _ _ => rfl)) (pv 7) (fun _ _ => rfl)))
  (pss_one (ps_if (pt_cmp (pc_dnotin hu (pv 9) (pv 3)))
  (pss_cons (ps_dput hu (pv 3) (pv 9) (pe_op (op_catAK K rfl) (pe_tup (pa_cons (pv 7) pa_nil)) (pe_dget hu (pv 3) (pv 8) (fun _ _ => rfl))) rfl)
  (pss_one (ps_expr (pe_bmK K rfl PySem.F.plainAttrs_list PySem.F.slot_list_append PySem.F.type_list_append mt_append (pv 6) (pa_cons (pv 9) pa_nil)))))
  (pss_nil)))))))
  (pss_cons (ps_expr (pe_bmK K rfl PySem.F.plainAttrs_list PySem.F.slot_list_extend PySem.F.type_list_extend mt_extend (pv 4) (pa_cons (pv 6) pa_nil)))
  (pss_one (ps_set (i := 5) sc_reached_in_front.nd rfl (.inl rfl) (pv 6)))))))
  (pss_one (ps_ret (pe_lc (own := [("state", 8)]) rfl sc_reached_in_front.nd (pi_listK K rfl (pv 4)) (blkOk_by (N := N_reached_in_front) (sc := defScope (top 2)) (by decide +kernel)) (fun _ _ _ _ _ => pg_name (i := 8) sc_reached_in_front.nd rfl (.inl rfl) (.inr rfl)) (fun _ _ _ _ _ => pts_nil) (fun _ _ _ _ _ => pe_tup (pa_cons (pv 8) (pa_cons (pe_dget hu (pv 3) (pv 8) (fun _ _ => rfl)) pa_nil))))))))), ?_⟩
    walk_at "nf"
    -- found = {start: ()}
    intro fd hfd
    refine ⟨_, rfl, (by show 0 ≤ sizeLine; decide), fun t0 ht0 => ?_⟩
    have nf : t0 ≠ fd := (ne_of_none (upd_same (H := H) (a := fd) (o := .dK [])) ht0).symm
    refine ⟨by rw [upd_ne nf.symm, upd_same], [(Sum.inl (start : Int), .ref t0)], rfl, by show 1 ≤ 15; decide, ?_⟩
    have ht0' : H t0 = none := by rw [upd_ne nf] at ht0; exact ht0
    have g1 : Gr Z H (upd Z t0 (.tup [])) (upd (upd (upd H fd (.dK [])) t0 (.tup [])) fd (.dK [(Sum.inl (start : Int), V.ref t0)])) :=
      (((Grow.refl sub).alloc hfd).allocZ ht0).mut (.inl hfd) (by rw [upd_ne nf.symm]; exact sub.free hfd) (u := .dK []) (by rw [upd_ne nf.symm, upd_same])
    -- order = [start]; level = [start]
    refine ⟨_, rfl, (by show 1 ≤ sizeLine; decide), fun od hod => ?_⟩
    have nod : fd ≠ od := ne_of_none upd_same hod
    have hoo : H od = none := g1.free hod
    have g2 : Gr Z H (upd Z t0 (.tup [])) (upd _ od (.lst (vN [start]))) := g1.alloc hod
    refine ⟨_, rfl, (by show 1 ≤ sizeLine; decide), fun ld hld => ?_⟩
    have nld : od ≠ ld := ne_of_none upd_same hld
    have nlf : fd ≠ ld := ne_of_none (by rw [upd_ne nod, upd_same]) hld
    have g3 := g2.allocZ (o := .lst (vN [start])) hld
    have zf1 : (upd Z t0 (.tup [])) fd = none := by rw [upd_ne nf.symm]; exact sub.free hfd
    have zo1 : (upd Z t0 (.tup [])) od = none := g1.zh.free hod
    have kv1 : (upd (upd (upd (upd (upd H fd (.dK [])) t0 (.tup [])) fd (.dK [(Sum.inl (start : Int), V.ref t0)])) od (.lst (vN [start]))) ld (.lst (vN [start]))) fd = some (.dK [(Sum.inl (start : Int), V.ref t0)]) := by
      rw [upd_ne nlf, upd_ne nod, upd_same]
    -- while level
    refine ⟨fun m σ Hc => ∃ os lv vl Z1 e6 e7 e8 e9, σ = [some v0, some (.int (start : Int)), some (.int (r : Int)), some (.ref fd), some (.ref od), some vl, e6, e7, e8, e9] ∧ RFH Z H rows start fd od os [] Z1 Hc ∧ isL isN Z1 vl lv ∧ (∀ s ∈ lv, s ∈ os) ∧ lv.length ≤ os.length ∧
        (∀ s ∈ os, s ∈ lv ∨ ∀ o ∈ rows.getD s [], o ∈ os) ∧ m = 2 * (rows.length - os.length) + (if lv = [] then 0 else 1),
      ⟨_, [start], [start], _, _, none, none, none, none, rfl, ⟨g3, by rw [upd_ne nlf]; exact zf1, by rw [upd_ne nld]; exact zo1, ⟨_, kv1, .cons ⟨rfl, t0, [], rfl, (g2.allocZ (o := .lst (vN [start])) hld).z.trans (Same.refl _) |> fun _ => same_upd (g2.zh.free hld) _ _ upd_same, Nat.zero_le _⟩ .nil⟩, by rw [upd_ne nld, upd_same]; rfl, ⟨[], rfl⟩, by simp, by simpa using hst⟩, isL_vN upd_same, by simp, by simp, by simp, rfl⟩, ?_⟩
    rintro m σ Hc ⟨os, lv, vl, Z1, e6, e7, e8, e9, rfl, R, hlv, hsub, hle, done, rfl⟩
    have nd0 : os.Nodup := by have := R.nd; rwa [List.append_nil] at this
    have lt0 : ∀ s ∈ os, s < rows.length := fun s hs => R.lt s (List.mem_append_left _ hs)
    have hlen : os.length ≤ rows.length := nodup_lt_length nd0 lt0
    walk_at "nf"
    obtain ⟨la, rfl, hla⟩ := isL_N.mp hlv
    refine ⟨_, rfl, !(vN lv).isEmpty, .inl ⟨vN lv, SqL.of (R.gr.zh _ _ hla), rfl⟩, ?_⟩
    by_cases hemp : lv = []
    · -- the end
      subst hemp
      refine ifN rfl (c_list ⟨_, rfl, ?_⟩)
      obtain ⟨kvs, hkv, fdv⟩ := R.kv
      rw [List.append_nil] at fdv
      have gf := R.gr.freeze hoo R.zo R.od
      refine k_mapL (K := K) (p := isN) (q := isF) id (isL_vN (Z := upd Z1 od (.lst (vN os))) upd_same) gf.zh (by omega) (by decide) (fun i x wx Z2 H2 R2 hx px g2 hR => ?_) (fun v Z' H' g' hv => ?_)
      · obtain rfl : wx = .int (x : Int) := px
        have kv2 := g2.keepH hkv
        refine a_tup2 ⟨_, rfl, _, rfl, _, rfl, fd, ?_⟩
        rcases fdv.val x with ⟨_, b1, ws, f1, f2, f3⟩ | ⟨no, _⟩
        · refine ⟨_, rfl, f1 ▸ DGet.k (k := Sum.inl (x : Int)) kv2, x_tupZ (Z := Z2) g2.zh (by simp) fun t Z3 H3 g3 ht => hR _ Z3 H3 g3 ⟨t, _, rfl, ht⟩⟩
        · exact absurd (List.mem_of_getElem? hx) no
      · rw [List.map_id] at hv
        exact k v Z' H' os (gf.trans g') ⟨R.first, nd0, lt0, fun s hs => (done s hs).elim (fun z => by cases z) id⟩ hv
    · -- one level
      have hne : (!(vN lv).isEmpty) = true := by
        cases lv with
        | nil => exact absurd rfl hemp
        | cons a l => rfl
      refine ifY hne ⟨_, fun _ _ h => h, ?_⟩
      refine ⟨by show 0 ≤ sizeLine; decide, fun frd hfrd => ?_⟩
      have hkv0 := R.kv
      have nff : fd ≠ frd := by obtain ⟨kvs, hkv, _⟩ := hkv0; exact ne_of_none hkv hfrd
      have nfo : od ≠ frd := ne_of_none R.od hfrd
      have hfr0 : H frd = none := R.gr.free hfrd
      have hlv' : ∀ {Z2 : Hp}, Same Z1 Z2 → isL isN Z2 (.ref la) lv := fun s => Mono.mono s (isL_vN hla)
      -- for k in range(letters)
      refine f_range ⟨_, rfl, k_forR (n := (r : Int)) rfl (by omega) (by omega) (fun i σ' H' => ∃ fr Z2 e7 e8 e9, σ' = [some v0, some (.int (start : Int)), some (.int (r : Int)), some (.ref fd), some (.ref od), some (.ref la), some (.ref frd), e7, e8, e9] ∧
          RFH Z H rows start fd od os fr Z2 H' ∧ Same Z1 Z2 ∧ Z2 frd = none ∧ H' frd = some (.lst (vN fr)) ∧ ∀ s ∈ lv, ∀ k', k' < i → (rows.getD s []).getD k' 0 ∈ os ++ fr)
        ⟨[], Z1, _, _, _, rfl, ⟨R.gr.alloc hfrd, R.zf, R.zo, ?_, by rw [upd_ne nfo]; exact R.od, R.first, R.nd, R.lt⟩, Same.refl _, R.gr.zh.free hfrd, upd_same, fun s hs k' hk' => absurd hk' (Nat.not_lt_zero _)⟩ ?_ ?_⟩
      · obtain ⟨kvs, hkv, fdv⟩ := hkv0
        exact ⟨kvs, by rw [upd_ne nff]; exact hkv, fdv⟩
      · rintro i σ' H' hi ⟨fr, Z2, e7, e8, e9, rfl, R2, s12, zfr, hfrl, dn⟩
        have hir : i < r := by omega
        -- for state in level
        refine f_list ⟨_, rfl, k_forL (K := K) (Z := Z2) (hlv' s12) (fun j σ' H' => ∃ fr Z3 e8 e9, σ' = [some v0, some (.int (start : Int)), some (.int (r : Int)), some (.ref fd), some (.ref od), some (.ref la), some (.ref frd), some (.int (i : Int)), e8, e9] ∧
            RFH Z H rows start fd od os fr Z3 H' ∧ Same Z2 Z3 ∧ Z3 frd = none ∧ H' frd = some (.lst (vN fr)) ∧ (∀ s ∈ lv, ∀ k', k' < i → (rows.getD s []).getD k' 0 ∈ os ++ fr) ∧ ∀ s ∈ lv.take j, (rows.getD s []).getD i 0 ∈ os ++ fr)
          ⟨fr, Z2, _, _, rfl, R2, Same.refl _, zfr, hfrl, dn, by simp⟩ (fun _ _ _ ⟨_, _, _, _, _, R3, s23, _⟩ => s23.trans R3.gr.zh) ?_ ?_⟩
        · rintro j st wst σ' H' hj pst ⟨fr, Z3, e8, e9, rfl, R3, s23, zfr3, hfr3, dn3, dj⟩
          obtain rfl : wst = .int (st : Int) := pst
          have mst : st ∈ lv := List.mem_of_getElem? hj
          have most : st ∈ os := hsub st mst
          have hrow : rows[st]? = some (rows.getD st []) := get_of (lt0 st most)
          have mrow := List.mem_of_getElem? hrow
          have hk : (rows.getD st [])[i]? = some ((rows.getD st []).getD i 0) := get_of (by rw [hrl _ mrow]; exact hir)
          have hor : (rows.getD st []).getD i 0 < rows.length := wd.lt _ mrow _ (List.mem_of_getElem? hk)
          generalize ho : (rows.getD st []).getD i 0 = o at hk hor
          have tk := take_snoc hj
          walk_at "nf"
          -- other = rows[state][k]
          refine ⟨_, rfl, _, rfl, x_ix (Mono.mono (R3.gr.z) hrows) R3.gr.zh hrow fun wr hwr => ⟨_, rfl, x_ix hwr R3.gr.zh hk fun wo hwo => ?_⟩⟩
          obtain rfl : wo = .int (o : Int) := hwo
          obtain ⟨kvs, hkv, fdv⟩ := R3.kv
          refine ⟨_, rfl, _, rfl, fd, _, rfl, DGet.k (k := Sum.inl (o : Int)) hkv, _, rfl, ?_⟩
          rcases fdv.val o with ⟨mo, b1, ws, q1, q2, q3⟩ | ⟨mo, q1⟩
          · refine ifN (by rw [q1]; rfl) ⟨fr, Z3, _, _, rfl, R3, s23, zfr3, hfr3, dn3, fun s hs => ?_⟩
            rw [tk] at hs
            rcases List.mem_append.mp hs with hs | hs
            · exact dj s hs
            · rw [List.mem_singleton.mp hs, ho]; exact mo
          · refine ifY (by rw [q1]; rfl) ?_
            have hl' : (os ++ fr).length ≤ rows.length := nodup_lt_length R3.nd R3.lt
            rcases fdv.val st with ⟨_, b1, ws, f1, f2, f3⟩ | ⟨no, _⟩
            · -- found[other] = (k,) + found[state]
              refine a_tup1 ⟨_, rfl, x_tupZ (Z := Z3) R3.gr.zh (by simp) fun t2 Z4 H4 gr4 ht2 => ?_⟩
              have kv4 := gr4.keepH hkv
              refine ⟨_, rfl, _, rfl, fd, _, rfl, f1 ▸ DGet.k (k := Sum.inl (st : Int)) kv4, ?_⟩
              refine x_cat (Z := Z4) ht2 (gr4.z _ _ f2) gr4.zh (by simp; omega) fun r5 Z5 H5 gr5 hr5 => ?_
              have g5 := gr4.trans gr5
              have kv5 := g5.keepH hkv
              have od5 := g5.keepH R3.od
              have fr5 := g5.keepH hfr3
              have lk : kvs.length = (os ++ fr).length := Paired.length fdv
              refine ⟨_, rfl, _, rfl, fd, _, rfl, DPut.k (k := Sum.inl (o : Int)) kv5 (sz6' (by omega)), ?_⟩
              rw [putK_new _ q1]
              have fr6 : (upd H5 fd (.dK (kvs ++ [(Sum.inl (o : Int), V.ref r5)]))) frd = some (.lst (vN fr)) := by rw [upd_ne nff.symm]; exact fr5
              refine ⟨_, rfl, .inl ⟨rfl, _, SqL.of fr6⟩, _, rfl, frd, _, _, rfl, rfl, fr6, sz6' (by rw [List.length_map]; rw [List.length_append] at hl'; omega), ?_⟩
              have ev : vN (fr ++ [o]) = vN fr ++ [V.int (o : Int)] := by simp [vN]
              have ea : os ++ (fr ++ [o]) = (os ++ fr) ++ [o] := (List.append_assoc _ _ _).symm
              have g6 := ((R3.gr.trans g5).mut (o := .dK (kvs ++ [(Sum.inl (o : Int), V.ref r5)])) (.inl hfd) (g5.keepZ R3.zf hkv) kv5).mut (o := .lst (vN fr ++ [V.int (o : Int)])) (u := .lst (vN fr)) (.inl hfr0) (g5.keepZ zfr3 hfr3) fr6
              refine ⟨fr ++ [o], Z5, _, _, rfl, ⟨g6, g5.keepZ R3.zf hkv, g5.keepZ R3.zo R3.od, ⟨_, by rw [upd_ne nff, upd_same], ?_⟩, by rw [upd_ne nfo, upd_ne nod.symm]; exact od5, R3.first, ?_, ?_⟩, s23.trans g5.z, g5.keepZ zfr3 hfr3, by rw [ev]; exact upd_same, fun s hs k' hk' => ?_, fun s hs => ?_⟩
              · rw [ea]
                refine Paired.snoc (fdv.mono g5.z (by simp)) ⟨rfl, r5, _, rfl, hr5, ?_⟩
                simp at f3 ⊢
                omega
              · rw [ea, List.nodup_append]
                exact ⟨R3.nd, by simp, fun x hx y hy e => mo (by rw [← List.mem_singleton.mp hy, ← e]; exact hx)⟩
              · intro x hx
                rw [ea] at hx
                rcases List.mem_append.mp hx with hx | hx
                · exact R3.lt x hx
                · rw [List.mem_singleton.mp hx]; exact hor
              · rw [ea]; exact List.mem_append_left _ (dn3 s hs k' hk')
              · rw [ea]
                rw [tk] at hs
                rcases List.mem_append.mp hs with hs | hs
                · exact List.mem_append_left _ (dj s hs)
                · rw [List.mem_singleton.mp hs, ho]; exact List.mem_append_right _ (List.mem_singleton.mpr rfl)
            · exact absurd (List.mem_append_left _ most) no
        · rintro σ' H' ⟨fr, Z3, e8, e9, rfl, R3, s23, zfr3, hfr3, dn3, dj⟩
          rw [List.take_length] at dj
          refine ⟨fr, Z3, _, _, _, rfl, R3, s12.trans s23, zfr3, hfr3, fun s hs k' hk' => ?_⟩
          by_cases c : k' = i
          · subst c; exact dj s hs
          · exact dn3 s hs k' (by omega)
      · -- order.extend(fresh); level = fresh
        rintro σ' H' ⟨fr, Z2, e7, e8, e9, rfl, R2, s12, zfr, hfrl, dn⟩
        have hl' : (os ++ fr).length ≤ rows.length := nodup_lt_length R2.nd R2.lt
        rw [List.length_append] at hl'
        walk_at "nf"
        refine ⟨_, rfl, .inl ⟨rfl, _, SqL.of R2.od⟩, _, rfl, od, frd, _, _, rfl, rfl, R2.od, hfrl, sz6 (by rw [List.length_map, List.length_map]; omega), _, rfl, ?_⟩
        obtain ⟨kvs, hkv, fdv⟩ := R2.kv
        have ev : vN (os ++ fr) = vN os ++ vN fr := by simp [vN]
        have gm := R2.gr.mut (o := .lst (vN os ++ vN fr)) (.inl hoo) R2.zo R2.od
        have fr7 : (upd H' od (.lst (vN os ++ vN fr))) frd = some (.lst (vN fr)) := by rw [upd_ne nfo.symm]; exact hfrl
        have gz := gm.freeze hfr0 zfr fr7
        have szr := same_upd (Z := Z2) (p := frd) (o := .lst (vN fr)) zfr
        refine ⟨2 * (rows.length - (os ++ fr).length) + (if fr = [] then 0 else 1), ?_, os ++ fr, fr, _, upd Z2 frd (.lst (vN fr)), _, _, _, _, rfl, ⟨gz, by rw [upd_ne nff]; exact R2.zf, by rw [upd_ne nfo]; exact R2.zo, ⟨kvs, by rw [upd_ne nod]; exact hkv, ?_⟩, by rw [ev]; exact upd_same, ?_, ?_, ?_⟩, isL_vN upd_same, fun s hs => List.mem_append_right _ hs, by simp, fun s hs => ?_, rfl⟩
        · rw [if_neg hemp, List.length_append]
          cases fr with
          | nil => simp
          | cons a l => simp at hl' ⊢; omega
        · rw [List.append_nil]; exact fdv.mono szr (Nat.le_refl _)
        · obtain ⟨q, eq⟩ := R2.first
          exact ⟨q ++ fr, by rw [eq]; rfl⟩
        · rw [List.append_nil]; exact R2.nd
        · rw [List.append_nil]; exact R2.lt
        · rcases List.mem_append.mp hs with hs | hs
          · refine .inr ?_
            rcases done s hs with h | h
            · intro o ho
              obtain ⟨k', hk'⟩ := List.getElem?_of_mem ho
              have hkl := (List.getElem?_eq_some_iff.mp hk').1
              have := dn s h k' (by rw [hrl _ (getD_mem (lt0 s hs))] at hkl; omega)
              rwa [getD_of hk'] at this
            · exact fun o ho => List.mem_append_left _ (h o ho)
          · exact .inl hs
end
end K87

set_option autoImplicit true
set_option Elab.async false
set_option linter.all false
set_option maxRecDepth 100000
set_option maxHeartbeats 4000000
set_option pp.deepTerms.threshold 6
/-! K87D6: least_parts. -/
namespace K87
open PySem L2 PySem.Spec PyProof.Rows
section
local macro_rules | `(tactic| walk_at "nf") => `(tactic| try dsimp only [tSeq, tAsg, gName, tRet, tRetN, tDrop, tNext, tIfS, tTest, tB, tOp, tUn, tNil, tCons, tCB, tC, tAnd, tOr, tNot, tAndV, tOrV, tNotV, tIf, sDPut, sFld, sFldAug, tM0, tM1, tBM, tBM0, tMeth, tCall, sGPut, tGGet, tGNin, tDGet, tDNotIn, tDIn, tFld])
local macro_rules | `(tactic| walk_at "st") => `(tactic| try dsimp only [wipe, List.set_cons_zero, List.set_cons_succ])
variable {P : Program} {w : World} {K : PySem.W.Frag} {mg : Str → Option Value} {base : Heap}
theorem Rows.wide {rows : List (List Nat)} {r : Nat} (R : Rows rows r) (h : rows.length ≤ 100) : Wide rows := ⟨R.lt, by omega⟩
def spLP : Sp := fun vs H Q _ => ∃ (Z : Hp) (v0 v1 v2 : V) (left right : List (List Nat)) (tbl : List (List Str)) (r : Nat), vs = [v0, v1, v2, .int (r : Int)] ∧ Same Z H ∧ isL (isL isN) Z v0 left ∧ isL (isL isN) Z v1 right ∧ isL (isL isS) Z v2 tbl ∧
  Rows left r ∧ Rows right r ∧ left.length ≤ 100 ∧ right.length ≤ 100 ∧ r ≤ 100 ∧ tbl.length = left.length ∧ (∀ row ∈ tbl, row.length = right.length) ∧
  ∀ a vl vr vt Z' H' nl nr nt, Gr Z H Z' H' → Z' a = some (.tup [vl, vr, vt]) → isL (isL isN) Z' vl nl → isL (isL isN) Z' vr nr → isL (isL isS) Z' vt nt → Least left right tbl Str.empty r nl nr nt → Q (.ref a) H'
abbrev N_least_parts : List Str := ["left", "right", "table", "letters", "lefts", "state", "word", "rights", "rows", "others", "small", "j", "i", "front", "new_left", "told", "columns", "behind", "new_right"]
theorem sc_least_parts : FnScope N_least_parts ["left", "right", "table", "letters"] (defScope (top 8)) := ⟨rfl, rfl, rfl, by decide +kernel, rfl, by decide +kernel, by decide +kernel⟩
theorem ok_least_parts (T : Txt K mg) : FnOk P w K mg base CX0 3 T.d_least_parts.f T.d_least_parts.fd ["left", "right", "table", "letters"] spLP := by
  refine T.d_least_parts.fn.ok sc_least_parts (fun vs H Q E h => ?_) (fun cdv A outer s H vs Q E hr h => ?_)
  · obtain ⟨Z, v0, v1, v2, left, right, tbl, r, rfl, _⟩ := h
    rfl
  · obtain ⟨Z, v0, v1, v2, left, right, tbl, r, rfl, sub, hleft, hright, htbl, RL, RR, fl, fr, fr10, htl, htr, k⟩ := h
    refine ⟨_, pss_cons (ps_setLc (i := 4) (own := [("state", 5), ("word", 6)]) rfl sc_least_parts.nd rfl rfl (sw_true rfl rfl rfl (by decide +kernel)) (pi_listK K rfl (pe_call (ok_reached_behind T) (hr.mono (by decide)) (by rfl) T.d_reached_behind.mg T.d_reached_behind.fn.kp T.d_reached_behind.b .nil pass0 (pa_cons (pv 0) (pa_cons (pe_int) pa_nil)))) (blkOk_by (N := N_least_parts) (sc := defScope (top 8)) (by decide +kernel)) (fun _ _ _ _ _ => pg_tupK (n := 2) K rfl rfl (pgs_cons (pg_name (i := 5) sc_least_parts.nd rfl (.inl rfl) (.inr rfl)) (pgs_cons (pg_name (i := 6) sc_least_parts.nd rfl (.inl rfl) (.inr rfl)) pgs_nil))) (fun _ _ _ _ _ => pts_nil) (fun _ _ _ _ _ => pv 5))
  (pss_cons (ps_set (i := 7) sc_least_parts.nd rfl (.inr rfl) (pe_lc (own := [("state", 5), ("word", 6)]) rfl sc_least_parts.nd (pi_listK K rfl (pe_call (ok_reached_in_front T) (hr.mono (by decide)) (by rfl) T.d_reached_in_front.mg T.d_reached_in_front.fn.kp T.d_reached_in_front.b .nil pass0 (pa_cons (pv 1) (pa_cons (pe_int) (pa_cons (pv 3) pa_nil))))) (blkOk_by (N := N_least_parts) (sc := defScope (top 8)) (by decide +kernel)) (fun _ _ _ _ _ => pg_tupK (n := 2) K rfl rfl (pgs_cons (pg_name (i := 5) sc_least_parts.nd rfl (.inl rfl) (.inr rfl)) (pgs_cons (pg_name (i := 6) sc_least_parts.nd rfl (.inl rfl) (.inr rfl)) pgs_nil))) (fun _ _ _ _ _ => pts_nil) (fun _ _ _ _ _ => pv 5)))
  (pss_cons (ps_set (i := 8) sc_least_parts.nd rfl (.inl rfl) (pe_call (ok_kept_rows T) (hr.mono (by decide)) (by rfl) T.d_kept_rows.mg T.d_kept_rows.fn.kp T.d_kept_rows.b .nil pass0 (pa_cons (pv 0) (pa_cons (pv 4) pa_nil))))
  (pss_cons (ps_set (i := 9) sc_least_parts.nd rfl (.inl rfl) (pe_call (ok_kept_rows T) (hr.mono (by decide)) (by rfl) T.d_kept_rows.mg T.d_kept_rows.fn.kp T.d_kept_rows.b .nil pass0 (pa_cons (pv 1) (pa_cons (pv 7) pa_nil))))
  (pss_cons (ps_set (i := 10) sc_least_parts.nd rfl (.inr rfl) (pe_lc (own := [("i", 12)]) rfl sc_least_parts.nd (pi_listK K rfl (pv 4)) (blkOk_by (N := N_least_parts) (sc := defScope (top 8)) (by decide +kernel)) (fun _ _ _ _ _ => pg_name (i := 12) sc_least_parts.nd rfl (.inr rfl) (.inl rfl)) (fun _ _ _ _ _ => pts_nil) (fun _ _ _ _ _ => pe_lc (own := [("j", 11)]) rfl sc_least_parts.nd (pi_listK K rfl (pv 7)) (blkOk_in (N := N_least_parts) (sc0 := defScope (top 8)) rfl rfl (by decide +kernel)) (fun _ _ _ _ _ => pg_name (i := 11) sc_least_parts.nd rfl (.inl rfl) (.inr rfl)) (fun _ _ _ _ _ => pts_nil) (fun _ _ _ _ _ => pe_ix (ix_listK K rfl) (pe_ix (ix_listK K rfl) (pv 2) (pv 12) (fun _ _ => rfl)) (pv 11) (fun _ _ => rfl)))))
  (pss_cons (ps_asg (pe_call (ok__chosen T) (hr.mono (by decide)) (by rfl) T.d__chosen.mg T.d__chosen.fn.kp T.d__chosen.b .nil pass0 (pa_cons (pv 8) (pa_cons (pe_call (ok_classes T (gkNested P w)) (hr.mono (by decide)) (by rfl) T.d_classes.mg T.d_classes.fn.kp T.d_classes.b .nil pass0 (pa_cons (pv 8) (pa_cons (pe_lc (own := [("told", 15)]) rfl sc_least_parts.nd (pi_listK K rfl (pv 10)) (blkOk_by (N := N_least_parts) (sc := defScope (top 8)) (by decide +kernel)) (fun _ _ _ _ _ => pg_name (i := 15) sc_least_parts.nd rfl (.inl rfl) (.inr rfl)) (fun _ _ _ _ _ => pts_nil) (fun _ _ _ _ _ => pe_callTy (call_tuple_ofK K rfl) (by rfl) T.b_tuple (by decide +kernel) (pa_cons (pv 15) pa_nil))) pa_nil))) pa_nil))) (pg_tupK (n := 2) K rfl rfl (pgs_cons (pg_name (i := 13) sc_least_parts.nd rfl (.inl rfl) (.inl rfl)) (pgs_cons (pg_name (i := 14) sc_least_parts.nd rfl (.inl rfl) (.inl rfl)) pgs_nil))))
  (pss_cons (ps_setLc (i := 16) (own := [("j", 11)]) rfl sc_least_parts.nd rfl rfl (sw_true rfl rfl rfl (by decide +kernel)) (pi_range1 (by rfl) T.b_range (pa_cons (pe_callB (call_len_seqK K rfl) (by rfl) T.b_len (by decide +kernel) (pa_cons (pv 7) pa_nil)) pa_nil)) (blkOk_by (N := N_least_parts) (sc := defScope (top 8)) (by decide +kernel)) (fun _ _ _ _ _ => pg_name (i := 11) sc_least_parts.nd rfl (.inr rfl) (.inl rfl)) (fun _ _ _ _ _ => pts_nil) (fun _ _ _ _ _ => pe_callTy (call_tuple_ofK K rfl) (by rfl) T.b_tuple (by decide +kernel) (pa_cons (pe_lc (own := [("told", 15)]) rfl sc_least_parts.nd (pi_listK K rfl (pv 10)) (blkOk_in (N := N_least_parts) (sc0 := defScope (top 8)) rfl rfl (by decide +kernel)) (fun _ _ _ _ _ => pg_name (i := 15) sc_least_parts.nd rfl (.inl rfl) (.inr rfl)) (fun _ _ _ _ _ => pts_nil) (fun _ _ _ _ _ => pe_ix (ix_listK K rfl) (pv 15) (pv 11) (fun _ _ => rfl))) pa_nil)))
  (pss_cons (ps_asg (pe_call (ok__chosen T) (hr.mono (by decide)) (by rfl) T.d__chosen.mg T.d__chosen.fn.kp T.d__chosen.b .nil pass0 (pa_cons (pv 9) (pa_cons (pe_call (ok_classes T (gkNested P w)) (hr.mono (by decide)) (by rfl) T.d_classes.mg T.d_classes.fn.kp T.d_classes.b .nil pass0 (pa_cons (pv 9) (pa_cons (pv 16) pa_nil))) pa_nil))) (pg_tupK (n := 2) K rfl rfl (pgs_cons (pg_name (i := 17) sc_least_parts.nd rfl (.inr rfl) (.inl rfl)) (pgs_cons (pg_name (i := 18) sc_least_parts.nd rfl (.inl rfl) (.inl rfl)) pgs_nil))))
  (pss_one (ps_ret (pe_tup (pa_cons (pv 14) (pa_cons (pv 18) (pa_cons (pe_lc (own := [("i", 12)]) rfl sc_least_parts.nd (pi_listK K rfl (pv 13)) (blkOk_by (N := N_least_parts) (sc := defScope (top 8)) (by decide +kernel)) (fun _ _ _ _ _ => pg_name (i := 12) sc_least_parts.nd rfl (.inr rfl) (.inl rfl)) (fun _ _ _ _ _ => pts_nil) (fun _ _ _ _ _ => pe_lc (own := [("j", 11)]) rfl sc_least_parts.nd (pi_listK K rfl (pv 17)) (blkOk_in (N := N_least_parts) (sc0 := defScope (top 8)) rfl rfl (by decide +kernel)) (fun _ _ _ _ _ => pg_name (i := 11) sc_least_parts.nd rfl (.inl rfl) (.inr rfl)) (fun _ _ _ _ _ => pts_nil) (fun _ _ _ _ _ => pe_ix (ix_listK K rfl) (pe_ix (ix_listK K rfl) (pv 10) (pv 12) (fun _ _ => rfl)) (pv 11) (fun _ _ => rfl)))) pa_nil))))))))))))), ?_⟩
    rw [show L2.start N_least_parts [v0, v1, v2, .int (r : Int)] = [some v0, some v1, some v2, some (.int (r : Int)), none, none, none, none, none, none, none, none, none, none, none, none, none, none, none] from rfl]
    walk_at "nf"
    have big : ∀ {l : List Nat} {n : Nat}, l.length = n → n ≤ 100 → l.length ≤ 1000000 := fun e h => by omega
    -- lefts
    refine c_list ?_
    walk_at "nf"
    refine ⟨_, rfl, Z, v0, left, 0, rfl, sub, hleft, RL.wide fl, RL.pos, fun u Z1 H1 lo g1 cl hu => ?_⟩
    have lol : lo.length ≤ 100 := by have := cl.len; omega
    refine k_mapF (q := isN) id hu g1.zh (by omega) (by decide) (by decide) (fun i n x Z2 H2 R hx g2 hR => ⟨_, rfl, hR _ Z2 H2 (Grow.refl g2.zh) rfl⟩) (fun vlo Z2 H2 g2 hlo => ?_)
    rw [List.map_id] at hlo
    have g2 := g1.trans g2
    walk_at "st"
    -- rights
    refine c_list ?_
    walk_at "nf"
    refine ⟨_, rfl, _, rfl, Z2, v1, right, 0, r, rfl, g2.zh, Mono.mono g2.z hright, RR.wide fr, RR.pos, RR.len, by omega, fun u Z3 H3 ro g3 cr hu => ?_⟩
    have rol : ro.length ≤ 100 := by have := cr.len; omega
    have g3 := g2.trans g3
    refine k_mapF (q := isN) id hu g3.zh (by omega) (by decide) (by decide) (fun i n x Z4 H4 R hx g4 hR => ⟨_, rfl, hR _ Z4 H4 (Grow.refl g4.zh) rfl⟩) (fun vro Z4 H4 g4 hro => ?_)
    rw [List.map_id] at hro
    have h14 := g4
    have g4 := g3.trans g4
    have hlo4 : isL isN Z4 vlo lo := Mono.mono ((show Gr Z2 H2 Z3 H3 by assumption).z.trans h14.z) hlo
    walk_at "st"
    -- rows = kept_rows(left, lefts)
    refine ⟨_, rfl, _, rfl, Z4, v0, vlo, left, lo, rfl, g4.zh, Mono.mono g4.z hleft, hlo4, RL.wide fl, cl.nd, cl.lt, cl.step, fun row hrow => by rw [RL.len _ hrow]; omega, fun vk Z5 H5 g45 hk => ?_⟩
    have g5 := g4.trans g45
    have Rk := kept_rows cl RL
    have kll := kept_len left lo
    walk_at "st"
    -- others = kept_rows(right, rights)
    refine ⟨_, rfl, _, rfl, Z5, v1, vro, right, ro, rfl, g5.zh, Mono.mono g5.z hright, Mono.mono g45.z hro, RR.wide fr, cr.nd, cr.lt, cr.step, fun row hrow => by rw [RR.len _ hrow]; omega, fun vk' Z6 H6 g56 hk' => ?_⟩
    have g6 := g5.trans g56
    have Rk' := kept_rows cr RR
    have krl := kept_len right ro
    have hro6 : isL isN Z6 vro ro := Mono.mono (g45.z.trans g56.z) hro
    have hlo6 : isL isN Z6 vlo lo := Mono.mono (g45.z.trans g56.z) hlo4
    walk_at "st"
    -- small
    refine c_list ⟨_, rfl, k_mapL (K := K) (p := isN) (q := isL isS) (fun i => ro.map fun j => (tbl.getD i []).getD j Str.empty) hlo6 g6.zh (by omega) (by decide) (fun i x wx Z7 H7 R hx px g7 hR => ?_) (fun vsm Z7 H7 g67 hsm => ?_)⟩
    · obtain rfl : wx = .int (x : Int) := px
      have hxl := cl.lt x (List.mem_of_getElem? hx)
      have hrow : tbl[x]? = some (tbl.getD x []) := get_of (by omega)
      refine c_list ⟨_, rfl, k_mapL (K := K) (p := isN) (q := isS) (fun j => (tbl.getD x []).getD j Str.empty) (Mono.mono g7.z hro6) g7.zh (by omega) (by decide) (fun j y wy Z8 H8 R8 hy py g8 hR8 => ?_) (fun v8 Z8 H8 g8 h8 => hR v8 Z8 H8 g8 h8)⟩
      obtain rfl : wy = .int (y : Int) := py
      have hyl := cr.lt y (List.mem_of_getElem? hy)
      refine ⟨_, rfl, _, rfl, x_ix (Mono.mono (g6.z.trans (g7.z.trans g8.z)) htbl) g8.zh hrow fun wr hwr => ⟨_, rfl, x_ix hwr g8.zh (get_of (d := Str.empty) (by rw [htr _ (List.mem_of_getElem? hrow)]; exact hyl)) fun w9 h9 => hR8 w9 Z8 H8 (Grow.refl g8.zh) h9⟩⟩
    have hsm : isL (isL isS) Z7 vsm (smallOf tbl Str.empty lo ro) := hsm
    have sml : (smallOf tbl Str.empty lo ro).length = lo.length := List.length_map _
    have g7 := g6.trans g67
    walk_at "st"
    -- front, new_left = _chosen(rows, classes(rows, [tuple(told) for told in small]))
    refine ⟨_, rfl, _, rfl, c_list ⟨_, rfl, k_mapL (K := K) (p := isL isS) (q := ((gkNested P w).key : Rep NestedKey)) tKey hsm g7.zh (by omega) (by decide) (fun i told wt Z8 H8 R ht pt g8 hR => ?_) (fun vm Z8 H8 g78 hm => ?_)⟩⟩
    · refine ⟨_, rfl, x_tupOf pt g8.zh fun w9 Z9 H9 g9 h9 => hR w9 Z9 H9 g9 (tKey_of h9)⟩
    have g8 := g7.trans g78
    have hk8 : isL (isL isN) Z8 vk (keptRows left lo) := Mono.mono (g56.z.trans (g67.z.trans g78.z)) hk
    have wk := Rk.wide (by omega)
    refine ⟨Z8, vk, vm, _, _, rfl, g8.zh, hk8, hm, wk, by rw [List.length_map, sml, kll], Rk.pos, fun row hrow => by rw [Rk.len _ hrow]; omega, fun vp Z9 H9 pl ml g89 Al hpl => ?_⟩
    have g9 := g8.trans g89
    have mlf := Al.few
    refine ⟨Z9, vk, vp, _, _, ml, rfl, g9.zh, Mono.mono g89.z hk8, hpl, wk, Al.len, Al.pm, by omega, fun row hrow => by rw [Rk.len _ hrow]; omega, fun vc Z10 H10 g910 hc => ?_⟩
    obtain ⟨ac, vfr, vnl, rfl, hac, hfr, hnl⟩ := hc
    have g10 := g9.trans g910
    refine ⟨ac, _, rfl, SqT.of (g10.zh _ _ hac), rfl, _, _, rfl, _, _, rfl, rfl, ?_⟩
    have s710 : Same Z7 Z10 := g78.z.trans (g89.z.trans g910.z)
    have hsm10 := Mono.mono s710 hsm
    have hro10 := Mono.mono (g67.z.trans s710) hro6
    walk_at "nf"
    walk_at "st"
    -- columns
    refine c_range ?_
    walk_at "nf"
    refine ⟨_, rfl, x_len hro10 g10.zh rfl ?_⟩
    refine k_mapR (n := ro.length) (q := ((gkNested P w).key : Rep NestedKey)) (fun j => tKey ((smallOf tbl Str.empty lo ro).map fun told => told.getD j Str.empty)) rfl g10.zh (by omega) (by decide) (fun j Z11 H11 R hj g11 hR => ?_) (fun vcol Z11 H11 g1011 hcol => ?_)
    · refine a_one (c_list ⟨_, rfl, k_mapL (K := K) (p := isL isS) (q := isS) (fun told => told.getD j Str.empty) (Mono.mono g11.z hsm10) g11.zh (by omega) (by decide) (fun i told wt Z12 H12 R12 ht pt g12 hR12 => ?_) (fun v12 Z12 H12 g12 h12 => ?_)⟩)
      · have htl' : told.length = ro.length := by
          obtain ⟨i', _, rfl⟩ := List.mem_map.mp (List.mem_of_getElem? ht)
          rw [List.length_map]
        exact ⟨_, rfl, _, rfl, x_ix pt g12.zh (get_of (d := Str.empty) (htl'.symm ▸ hj)) fun w9 h9 => hR12 w9 Z12 H12 (Grow.refl g12.zh) h9⟩
      · exact x_tupOf h12 g12.zh fun w13 Z13 H13 g13 h13 => hR w13 Z13 H13 (g12.trans g13) (tKey_of h13)
    have g11 := g10.trans g1011
    have hk11 : isL (isL isN) Z11 vk' (keptRows right ro) := Mono.mono ((g67.z.trans s710).trans g1011.z) hk'
    have wk' := Rk'.wide (by omega)
    walk_at "st"
    -- behind, new_right = _chosen(others, classes(others, columns))
    refine ⟨_, rfl, _, rfl, _, rfl, Z11, vk', vcol, _, _, rfl, g11.zh, hk11, hcol, wk', by rw [List.length_map, List.length_range, krl], Rk'.pos, fun row hrow => by rw [Rk'.len _ hrow]; omega, fun vp' Z12 H12 pr mr g1112 Ar hpr => ?_⟩
    have g12 := g11.trans g1112
    have mrf := Ar.few
    refine ⟨Z12, vk', vp', _, _, mr, rfl, g12.zh, Mono.mono g1112.z hk11, hpr, wk', Ar.len, Ar.pm, by omega, fun row hrow => by rw [Rk'.len _ hrow]; omega, fun vc' Z13 H13 g1213 hc' => ?_⟩
    obtain ⟨ac', vbe, vnr, rfl, hac', hbe, hnr⟩ := hc'
    have g13 := g12.trans g1213
    refine ⟨ac', _, rfl, SqT.of (g13.zh _ _ hac'), rfl, _, _, rfl, _, _, rfl, rfl, ?_⟩
    have s1013 : Same Z10 Z13 := g1011.z.trans (g1112.z.trans g1213.z)
    have hfr13 := Mono.mono s1013 hfr
    have hsm13 := Mono.mono s1013 hsm10
    have nfl : (firsts pl ml).length ≤ 1000000 := big firsts_len (Nat.le_trans mlf (Nat.le_trans (Nat.le_of_eq kll) lol))
    have nfr : (firsts pr mr).length ≤ 1000000 := big firsts_len (Nat.le_trans mrf (Nat.le_trans (Nat.le_of_eq krl) rol))
    walk_at "st"
    -- the end
    refine ⟨_, rfl, _, rfl, c_list ⟨_, rfl, k_mapL (K := K) (p := isN) (q := isL isS) (xs := firsts pl ml) (fun i => (firsts pr mr).map fun j => ((smallOf tbl Str.empty lo ro).getD i []).getD j Str.empty) hfr13 g13.zh nfl (by decide) (fun i x wx Z14 H14 R hx px g14 hR => ?_) (fun vt Z14 H14 g14 ht => ?_)⟩⟩
    · obtain rfl : wx = .int (x : Int) := px
      have hxl : x < (smallOf tbl Str.empty lo ro).length := by
        obtain ⟨c, hc, rfl⟩ := List.mem_map.mp (List.mem_of_getElem? hx)
        rw [sml, ← kll]
        exact (Al.first (c := c) (Nat.lt_succ_iff.mp (List.mem_range.mp hc))).1
      have hrow : (smallOf tbl Str.empty lo ro)[x]? = some ((smallOf tbl Str.empty lo ro).getD x []) := get_of hxl
      have hrl : ((smallOf tbl Str.empty lo ro).getD x []).length = ro.length := by
        obtain ⟨i', _, e'⟩ := List.mem_map.mp (List.mem_of_getElem? hrow)
        rw [← e', List.length_map]
      refine c_list ⟨_, rfl, k_mapL (K := K) (p := isN) (q := isS) (xs := firsts pr mr) (fun j => ((smallOf tbl Str.empty lo ro).getD x []).getD j Str.empty) (Mono.mono g14.z hbe) g14.zh nfr (by decide) (fun j y wy Z15 H15 R15 hy py g15 hR15 => ?_) (fun v15 Z15 H15 g15 h15 => hR v15 Z15 H15 g15 h15)⟩
      obtain rfl : wy = .int (y : Int) := py
      have hyr : y < ((smallOf tbl Str.empty lo ro).getD x []).length := by
        obtain ⟨c', hc', rfl⟩ := List.mem_map.mp (List.mem_of_getElem? hy)
        rw [hrl, ← krl]
        exact (Ar.first (c := c') (Nat.lt_succ_iff.mp (List.mem_range.mp hc'))).1
      have hcell : ((smallOf tbl Str.empty lo ro).getD x [])[y]? = some (((smallOf tbl Str.empty lo ro).getD x []).getD y Str.empty) := get_of hyr
      have hsm15 := Mono.mono (g14.z.trans g15.z) hsm13
      generalize hrg : (smallOf tbl Str.empty lo ro).getD x [] = row at hrow hcell hR15
      refine ⟨_, rfl, _, rfl, x_ix hsm15 g15.zh hrow fun wr hwr => ⟨_, rfl, x_ix hwr g15.zh hcell fun w9 h9 => hR15 w9 Z15 H15 (Grow.refl g15.zh) h9⟩⟩
    · refine ⟨by show 3 ≤ sizeLine; decide, fun t ht' => ?_⟩
      have gt := g14.allocZ (o := .tup [vnl, vnr, vt]) ht'
      refine k t vnl vnr vt _ _ _ _ _ (g13.trans gt) upd_same (Mono.mono (s1013.trans gt.z) hnl) (Mono.mono gt.z hnr) (Mono.mono (same_upd (g14.zh.free ht')) ht) ?_
      exact least_ok tKey_inj tKey_inj RL RR htl htr cl cr rfl rfl Al Ar
end
end K87

set_option autoImplicit true
set_option Elab.async false
set_option linter.all false
set_option maxRecDepth 100000
set_option maxHeartbeats 4000000
set_option pp.deepTerms.threshold 6
/-! K87D7: instances; Automaton, Network, Part; onward, accepts, describes. -/
namespace K87
open PySem L2 PySem.Spec PyProof.Rows
section
local macro_rules | `(tactic| walk_at "nf") => `(tactic| try dsimp only [tSeq, tAsg, gName, tRet, tRetN, tDrop, tNext, tIfS, tTest, tB, tOp, tUn, tNil, tCons, tCB, tC, tAnd, tOr, tNot, tAndV, tOrV, tNotV, tIf, sDPut, sFld, sFldAug, tM0, tM1, tBM, tBM0, tMeth, tMake, tCall, sGPut, tGGet, tGNin, tDGet, tDNotIn, tDIn, tFld])
variable {P : Program} {w : World} {K : PySem.W.Frag} {mg : Str → Option Value} {base : Heap}
theorem t_C {σ : L2.St} {H : Hp} {Q : VK} {v : V} (h : Q v H) : tC v σ H Q := h
/-! ### new instances -/
def NewK (C : Addr) (sp : Sp) (E : XK) (vs : List V) (H : Hp) (Q : VK) : Prop := ∀ x dx, H x = none → H dx = none → dx ≠ x → sp (.ref x :: (vs ++ [])) (upd (upd H dx (.own x)) x (.ins C dx [])) (fun v H2 => v = .non ∧ Q (.ref x) H2) E
theorem a_new1 {C : Addr} {sp : Sp} {E : XK} {ta : TE} {σ : L2.St} {H : Hp} {Q : VK} (h : ta σ H fun v1 H1 => NewK C sp E [v1] H1 Q) : tMake C sp [] E (tCons ta tNil) σ H Q := h
theorem a_new2 {C : Addr} {sp : Sp} {E : XK} {ta tb : TE} {σ : L2.St} {H : Hp} {Q : VK} (h : ta σ H fun v1 H1 => tb σ H1 fun v2 H2 => NewK C sp E [v1, v2] H2 Q) : tMake C sp [] E (tCons ta (tCons tb tNil)) σ H Q := h
theorem a_new3 {C : Addr} {sp : Sp} {E : XK} {ta tb tc : TE} {σ : L2.St} {H : Hp} {Q : VK} (h : ta σ H fun v1 H1 => tb σ H1 fun v2 H2 => tc σ H2 fun v3 H3 => NewK C sp E [v1, v2, v3] H3 Q) : tMake C sp [] E (tCons ta (tCons tb (tCons tc tNil))) σ H Q := h
def spNew2 (C : Addr) (f1 f2 : Str) : Sp := fun vs H Q _ => ∃ x dx v1 v2, vs = [.ref x, v1, v2] ∧ H x = some (.ins C dx []) ∧ Q .non (upd H x (.ins C dx [(f1, v1), (f2, v2)]))
def spNew3 (C : Addr) (f1 f2 f3 : Str) : Sp := fun vs H Q _ => ∃ x dx v1 v2 v3, vs = [.ref x, v1, v2, v3] ∧ H x = some (.ins C dx []) ∧ Q .non (upd H x (.ins C dx [(f1, v1), (f2, v2), (f3, v3)]))
section
variable {C : Addr} {f1 f2 f3 : Str} {v1 v2 v3 : V} {Z H : Hp} {E : XK} {Q : VK}
theorem x_new {fs : List (Str × V)} (sub : Same Z H) (k : ∀ x dx Z' H', Gr Z H Z' H' → Z' x = some (.ins C dx fs) → Q (.ref x) H') (x dx : Addr) (hx : H x = none) (hdx : H dx = none) (ne : dx ≠ x) : Q (.ref x) (upd (upd (upd H dx (.own x)) x (.ins C dx [])) x (.ins C dx fs)) := by
  rw [upd_upd]
  exact k x dx (upd Z x (.ins C dx fs)) _ (((Grow.refl sub).alloc hdx).allocZ (by rw [upd_ne ne.symm]; exact hx)) upd_same
theorem x_new2 (sub : Same Z H) (k : ∀ x dx Z' H', Gr Z H Z' H' → Z' x = some (.ins C dx [(f1, v1), (f2, v2)]) → Q (.ref x) H') : NewK C (spNew2 C f1 f2) E [v1, v2] H Q := fun x dx hx hdx ne =>
  ⟨x, dx, v1, v2, rfl, upd_same, rfl, x_new sub k x dx hx hdx ne⟩
theorem x_new3 (sub : Same Z H) (k : ∀ x dx Z' H', Gr Z H Z' H' → Z' x = some (.ins C dx [(f1, v1), (f2, v2), (f3, v3)]) → Q (.ref x) H') : NewK C (spNew3 C f1 f2 f3) E [v1, v2, v3] H Q := fun x dx hx hdx ne =>
  ⟨x, dx, v1, v2, v3, rfl, upd_same, rfl, x_new sub k x dx hx hdx ne⟩
end
abbrev N_Automaton___init__ : List Str := ["self", "rows", "accepts"]
theorem sc_Automaton___init__ : FnScope N_Automaton___init__ ["self", "rows", "accepts"] (defScope (inClass (top 10) 0)) := ⟨rfl, rfl, rfl, by decide +kernel, rfl, by decide +kernel, by decide +kernel⟩
theorem ok_Automaton___init__ (T : Txt K mg) : FnOk P w K mg base CX0 1 T.c_Automaton.init.f T.c_Automaton.init.fd ["self", "rows", "accepts"] (spNew2 T.c_Automaton.C "rows" "accepts") := by
  refine T.c_Automaton.init.fn.ok sc_Automaton___init__ (fun vs H Q E h => ?_) (fun cdv A outer s H vs Q E hr h => ?_)
  · obtain ⟨x, dx, v1, v2, rfl, _⟩ := h
    rfl
  · obtain ⟨x, dx, v1, v2, rfl, hx, k⟩ := h
    refine ⟨_, pss_cons (ps_fld (pv 0) (pv 1) rfl)
  (pss_one (ps_fld (pv 0) (pv 2) rfl)), ?_⟩
    walk_at "nf"
    refine ⟨_, rfl, _, rfl, x, _, dx, [], rfl, hx, T.c_Automaton.cl, T.n_Automaton_rows, (by show 0 < 1000; decide), ?_⟩
    refine ⟨_, rfl, _, rfl, x, _, dx, _, rfl, upd_same, T.c_Automaton.cl, T.n_Automaton_accepts, (by show 1 < 1000; decide), ?_⟩
    rw [upd_upd]
    exact k
abbrev N_Network___init__ : List Str := ["self", "marks", "follow", "ends"]
theorem sc_Network___init__ : FnScope N_Network___init__ ["self", "marks", "follow", "ends"] (defScope (inClass (top 23) 0)) := ⟨rfl, rfl, rfl, by decide +kernel, rfl, by decide +kernel, by decide +kernel⟩
theorem ok_Network___init__ (T : Txt K mg) : FnOk P w K mg base CX0 1 T.c_Network.init.f T.c_Network.init.fd ["self", "marks", "follow", "ends"] (spNew3 T.c_Network.C "marks" "follow" "ends") := by
  refine T.c_Network.init.fn.ok sc_Network___init__ (fun vs H Q E h => ?_) (fun cdv A outer s H vs Q E hr h => ?_)
  · obtain ⟨x, dx, v1, v2, v3, rfl, _⟩ := h
    rfl
  · obtain ⟨x, dx, v1, v2, v3, rfl, hx, k⟩ := h
    refine ⟨_, pss_cons (ps_fld (pv 0) (pv 1) rfl)
  (pss_cons (ps_fld (pv 0) (pv 2) rfl)
  (pss_one (ps_fld (pv 0) (pv 3) rfl))), ?_⟩
    walk_at "nf"
    refine ⟨_, rfl, _, rfl, x, _, dx, [], rfl, hx, T.c_Network.cl, T.n_Network_marks, (by show 0 < 1000; decide), ?_⟩
    refine ⟨_, rfl, _, rfl, x, _, dx, _, rfl, upd_same, T.c_Network.cl, T.n_Network_follow, (by show 1 < 1000; decide), ?_⟩
    refine ⟨_, rfl, _, rfl, x, _, dx, _, rfl, upd_same, T.c_Network.cl, T.n_Network_ends, (by show 2 < 1000; decide), ?_⟩
    rw [upd_upd, upd_upd]
    exact k
abbrev N_Part___init__ : List Str := ["self", "nullable", "first", "last"]
theorem sc_Part___init__ : FnScope N_Part___init__ ["self", "nullable", "first", "last"] (defScope (inClass (top 24) 0)) := ⟨rfl, rfl, rfl, by decide +kernel, rfl, by decide +kernel, by decide +kernel⟩
theorem ok_Part___init__ (T : Txt K mg) : FnOk P w K mg base CX0 1 T.c_Part.init.f T.c_Part.init.fd ["self", "nullable", "first", "last"] (spNew3 T.c_Part.C "nullable" "first" "last") := by
  refine T.c_Part.init.fn.ok sc_Part___init__ (fun vs H Q E h => ?_) (fun cdv A outer s H vs Q E hr h => ?_)
  · obtain ⟨x, dx, v1, v2, v3, rfl, _⟩ := h
    rfl
  · obtain ⟨x, dx, v1, v2, v3, rfl, hx, k⟩ := h
    refine ⟨_, pss_cons (ps_fld (pv 0) (pv 1) rfl)
  (pss_cons (ps_fld (pv 0) (pv 2) rfl)
  (pss_one (ps_fld (pv 0) (pv 3) rfl))), ?_⟩
    walk_at "nf"
    refine ⟨_, rfl, _, rfl, x, _, dx, [], rfl, hx, T.c_Part.cl, T.n_Part_nullable, (by show 0 < 1000; decide), ?_⟩
    refine ⟨_, rfl, _, rfl, x, _, dx, _, rfl, upd_same, T.c_Part.cl, T.n_Part_first, (by show 1 < 1000; decide), ?_⟩
    refine ⟨_, rfl, _, rfl, x, _, dx, _, rfl, upd_same, T.c_Part.cl, T.n_Part_last, (by show 2 < 1000; decide), ?_⟩
    rw [upd_upd, upd_upd]
    exact k
/-! ### reps of instances -/
def isM : Rep (Option Nat) := fun _ v o => v = match o with | none => V.non | some n => V.int (n : Int)
instance : Mono isM := ⟨fun _ h => h⟩
def isNet (C : Addr) : Rep Net := fun Z v N => ∃ a dx vm vf ve, v = .ref a ∧ Z a = some (.ins C dx [("marks", vm), ("follow", vf), ("ends", ve)]) ∧ isL isM Z vm N.marks ∧ isL (isL isN) Z vf N.follow ∧ isL isN Z ve N.ends
instance {C : Addr} : Mono (isNet C) := ⟨fun s ⟨a, dx, vm, vf, ve, e, h, r1, r2, r3⟩ => ⟨a, dx, vm, vf, ve, e, s _ _ h, Mono.mono s r1, Mono.mono s r2, Mono.mono s r3⟩⟩
def isAut (C : Addr) : Rep Aut := fun Z v A => ∃ a dx vr va, v = .ref a ∧ Z a = some (.ins C dx [("rows", vr), ("accepts", va)]) ∧ isL (isL isN) Z vr A.rows ∧ isL isB Z va A.acc
instance {C : Addr} : Mono (isAut C) := ⟨fun s ⟨a, dx, vr, va, e, h, r1, r2⟩ => ⟨a, dx, vr, va, e, s _ _ h, Mono.mono s r1, Mono.mono s r2⟩⟩
/-- a dict whose keys are numbers -/
def Keys (kvs : List (Key × V)) (fs : List Nat) : Prop := kvs.map (·.1) = fs.map kN
def insN (fs : List Nat) (o : Nat) : List Nat := if o ∈ fs then fs else fs ++ [o]
theorem insN_mem {fs : List Nat} {o x : Nat} : x ∈ insN fs o ↔ x ∈ fs ∨ x = o := by
  unfold insN
  by_cases h : o ∈ fs
  · rw [if_pos h]
    exact ⟨.inl, fun q => q.elim id fun e => e ▸ h⟩
  · rw [if_neg h, List.mem_append, List.mem_singleton]
theorem insN_nodup {fs : List Nat} {o : Nat} (nd : fs.Nodup) : (insN fs o).Nodup := by
  unfold insN
  by_cases h : o ∈ fs
  · rw [if_pos h]; exact nd
  · rw [if_neg h, List.nodup_append]
    exact ⟨nd, by simp, fun x hx y hy e => h (by rw [← List.mem_singleton.mp hy, ← e]; exact hx)⟩
theorem Keys.put {kvs : List (Key × V)} {fs : List Nat} (h : Keys kvs fs) (o : Nat) (v : V) : Keys (putK kvs (kN o) v) (insN fs o) := by
  unfold Keys putK insN at *
  have hm : ((kvs.any fun kv => decide (kv.1 = kN o)) = true) ↔ o ∈ fs := by
    rw [List.any_eq_true]
    constructor
    · rintro ⟨kv, h1, h2⟩
      have h3 : kv.1 ∈ kvs.map (·.1) := List.mem_map_of_mem h1
      rw [h, of_decide_eq_true h2] at h3
      obtain ⟨x, hx, e⟩ := List.mem_map.mp h3
      rwa [← kN_inj _ _ e]
    · intro hx
      have h3 : kN o ∈ kvs.map (·.1) := by rw [h]; exact List.mem_map_of_mem hx
      obtain ⟨kv, h1, h2⟩ := List.mem_map.mp h3
      exact ⟨kv, h1, decide_eq_true h2⟩
  by_cases c : o ∈ fs
  · rw [if_pos (hm.mpr c), if_pos c, List.map_map, ← h]
    refine List.map_congr_left fun kv _ => ?_
    show (if kv.1 = kN o then (kv.1, v) else kv).1 = kv.1
    split <;> rfl
  · rw [if_neg (fun z => c (hm.mp z)), if_neg c, List.map_append, h, List.map_append]; rfl
theorem Keys.len {kvs : List (Key × V)} {fs : List Nat} (h : Keys kvs fs) : kvs.length = fs.length := by
  have := congrArg List.length h
  rwa [List.length_map, List.length_map] at this
theorem inV_nat {n : Nat} : ∀ {xs : List Nat}, inV (.int (n : Int)) (vN xs) = xs.contains n
  | [] => rfl
  | x :: xs => by
    have ih := inV_nat (n := n) (xs := xs)
    unfold inV at ih
    show (eqV (.int (x : Int)) (.int (n : Int)) || (vN xs).any _) = _
    rw [ih, List.contains_cons]
    congr 1
    show ((x : Int) == (n : Int)) = (n == x)
    rw [Bool.eq_iff_iff, beq_iff_eq, beq_iff_eq]
    omega
theorem flat_nat {xs : List Nat} : (vN xs).all flatV = true := by
  rw [List.all_eq_true]
  intro y hy
  obtain ⟨z, _, rfl⟩ := List.mem_map.mp hy
  rfl
def spOnw (C : Addr) : Sp := fun vs H Q _ => ∃ (Z : Hp) (v0 v1 : V) (N : Net) (ps : List Nat) (k : Nat), vs = [v0, v1, .int (k : Int)] ∧ Same Z H ∧ isNet C Z v0 N ∧ isT isN Z v1 ps ∧ N.Ok ∧ (∀ p ∈ ps, p < N.follow.length) ∧
  ∀ v Z' H', Gr Z H Z' H' → isT isN Z' v (N.onw ps k) → Q v H'
abbrev N_onward : List Str := ["network", "places", "k", "found", "place", "other"]
theorem sc_onward : FnScope N_onward ["network", "places", "k"] (defScope (top 11)) := ⟨rfl, rfl, rfl, by decide +kernel, rfl, by decide +kernel, by decide +kernel⟩
theorem ok_onward (T : Txt K mg) : FnOk P w K mg base CX0 1 T.d_onward.f T.d_onward.fd ["network", "places", "k"] (spOnw T.c_Network.C) := by
  refine T.d_onward.fn.ok sc_onward (fun vs H Q E h => ?_) (fun cdv A outer s H vs Q E hr h => ?_)
  · obtain ⟨Z, v0, v1, N, ps, k, rfl, _⟩ := h
    rfl
  · obtain ⟨Z, v0, v1, N, ps, k, rfl, sub, hN, hps, ok, hp, kk⟩ := h
    have hu := hu_of hr
    refine ⟨_, pss_cons (ps_set (i := 3) sc_onward.nd rfl (.inl rfl) (pe_dnewK))
  (pss_cons (ps_for PassesOwn.never rfl (pi_tupK K rfl (pv 1)) (pg_name (i := 4) sc_onward.nd rfl (.inl rfl) (.inl rfl))
  (pss_one (ps_for PassesOwn.never rfl (pi_listK K rfl (pe_ix (ix_listK K rfl) (pe_fldK K rfl (pv 0) rfl) (pv 4) (fun _ _ => rfl))) (pg_name (i := 5) sc_onward.nd rfl (.inl rfl) (.inl rfl))
  (pss_one (ps_if (PW.pt (pw_or (pt_cmpR op_isN (pe_ix (ix_listK K rfl) (pe_fldK K rfl (pv 0) rfl) (pv 5) (fun _ _ => rfl)) pe_non (nomark _)) (pw_or1 (pt_cmpR op_eq (pe_ix (ix_listK K rfl) (pe_fldK K rfl (pv 0) rfl) (pv 5) (fun _ _ => rfl)) (pv 2) (nomark _)))))
  (pss_one (ps_dput hu (pv 3) (pv 5) (pe_bl) rfl))
  (pss_nil))))))
  (pss_one (ps_ret (pe_callTy (call_tuple_ofK K rfl) (by rfl) T.b_tuple (by decide +kernel) (pa_cons (pe_callB (call_sortedDI rfl) (by rfl) T.b_sorted (by decide +kernel) (pa_cons (pv 3) pa_nil)) pa_nil))))), ?_⟩
    obtain ⟨an, dxn, vm, vf, ve, rfl, hn, hvm, hvf, hve⟩ := hN
    walk_at "nf"
    intro fd hfd
    -- for place in places
    refine f_tup ⟨_, rfl, k_forT (K := K) (Z := Z) hps (fun i σ Hc => ∃ fs kvs e4 e5, σ = [some (.ref an), some v1, some (.int (k : Int)), some (.ref fd), e4, e5] ∧ Gr Z H Z Hc ∧ Hc fd = some (.dK kvs) ∧ Keys kvs fs ∧ fs.Nodup ∧
        ∀ o, o ∈ fs ↔ o ∈ (ps.take i).flatMap fun p => (N.follow.getD p []).filter (N.fits k))
      ⟨[], [], none, none, rfl, (Grow.refl sub).alloc hfd, upd_same, rfl, List.nodup_nil, by simp⟩ (fun i σ Hc ⟨_, _, _, _, _, g, _⟩ => g.zh) ?_ ?_⟩
    · rintro i p wp σ Hc hi pp ⟨fs, kvs, e4, e5, rfl, g, hd, hk, nd, hm⟩
      obtain rfl : wp = .int (p : Int) := pp
      have hpl := hp p (List.mem_of_getElem? hi)
      have hrow : N.follow[p]? = some (N.follow.getD p []) := get_of hpl
      have mrow := List.mem_of_getElem? hrow
      walk_at "nf"
      refine f_list ⟨_, rfl, an, _, dxn, _, vf, rfl, g.zh _ _ hn, T.c_Network.cl, T.n_Network_follow, rfl, _, rfl, x_ix hvf g.zh hrow fun wr hwr => ?_⟩
      refine k_forL (K := K) (Z := Z) hwr (fun j σ Hc => ∃ fs kvs e5, σ = [some (.ref an), some v1, some (.int (k : Int)), some (.ref fd), some (.int (p : Int)), e5] ∧ Gr Z H Z Hc ∧ Hc fd = some (.dK kvs) ∧ Keys kvs fs ∧ fs.Nodup ∧
          ∀ o, o ∈ fs ↔ (o ∈ (ps.take i).flatMap fun p => (N.follow.getD p []).filter (N.fits k)) ∨ o ∈ ((N.follow.getD p []).take j).filter (N.fits k))
        ⟨fs, kvs, e5, rfl, g, hd, hk, nd, by simpa using hm⟩ (fun i σ Hc ⟨_, _, _, _, g, _⟩ => g.zh) ?_ ?_
      · rintro j o wo σ Hc hj po ⟨fs, kvs, e5, rfl, g, hd, hk, nd, hm⟩
        obtain rfl : wo = .int (o : Int) := po
        have hol : o < N.follow.length := ok.lt _ mrow o (List.mem_of_getElem? hj)
        have hmk : N.marks[o]? = some (N.marks.getD o none) := get_of (by rw [ok.len]; exact hol)
        have tk := take_snoc hj
        have fl : fs.length ≤ 13 := by
          have := List.Nodup.length_le_of_subset nd (l₂ := List.range 13) fun x hx => by
            have h13 := ok.few
            rw [List.mem_range]
            rcases (hm x).mp hx with h | h
            · obtain ⟨q, hq, h⟩ := List.mem_flatMap.mp h
              have := ok.lt _ (getD_mem (hp q (List.mem_of_mem_take hq))) x (List.mem_filter.mp h).1
              omega
            · have := ok.lt _ mrow x (List.mem_of_mem_take (List.mem_filter.mp h).1)
              omega
          rwa [List.length_range] at this
        -- the test
        have yes : N.fits k o = true → (sDPut (tVar 3) (tVar 5) (tC (.bl true))) { nx := fun σ Hc => ∃ fs kvs e5, σ = [some (.ref an), some v1, some (.int (k : Int)), some (.ref fd), some (.int (p : Int)), e5] ∧ Gr Z H Z Hc ∧ Hc fd = some (.dK kvs) ∧ Keys kvs fs ∧ fs.Nodup ∧
          ∀ x, x ∈ fs ↔ (x ∈ (ps.take i).flatMap fun p => (N.follow.getD p []).filter (N.fits k)) ∨ x ∈ ((N.follow.getD p []).take (j + 1)).filter (N.fits k), rt := Q } [some (.ref an), some v1, some (.int (k : Int)), some (.ref fd), some (.int (p : Int)), some (.int (o : Int))] Hc := by
          intro hf
          refine ⟨_, rfl, _, rfl, fd, _, rfl, DPut.k (k := kN o) hd (sz6' (by rw [hk.len]; omega)), ?_⟩
          refine ⟨insN fs o, _, _, rfl, g.mut (.inl hfd) (sub.free hfd) hd, upd_same, hk.put o _, insN_nodup nd, fun x => ?_⟩
          rw [insN_mem, hm, tk, List.filter_append, List.mem_append, or_assoc]
          simp [hf]
        walk_at "nf"
        refine ⟨_, rfl, an, _, dxn, _, vm, rfl, g.zh _ _ hn, T.c_Network.cl, T.n_Network_marks, rfl, _, rfl, x_ix hvm g.zh hmk fun wm hwm => ⟨rfl, ?_⟩⟩
        generalize hmo : N.marks.getD o none = mo at hwm hmk
        cases mo with
        | none =>
          obtain rfl : wm = .non := hwm
          exact ⟨true, rfl, ifY rfl (ifY rfl (yes (by unfold Net.fits; rw [hmo]; rfl)))⟩
        | some m =>
          obtain rfl : wm = .int (m : Int) := hwm
          refine ⟨false, rfl, ifN rfl ⟨_, rfl, an, _, dxn, _, vm, rfl, g.zh _ _ hn, T.c_Network.cl, T.n_Network_marks, rfl, _, rfl, x_ix hvm g.zh (hmo ▸ get_of (by rw [ok.len]; exact hol)) fun wm' hwm' => ?_⟩⟩
          obtain rfl : wm' = .int (m : Int) := hwm'
          refine ⟨_, rfl, rfl, _, rfl, ?_⟩
          have ef : N.fits k o = decide (m = k) := by
            unfold Net.fits
            rw [hmo, Bool.eq_iff_iff]
            simp
          by_cases c : m = k
          · exact ifY (by rw [c]; exact decide_eq_true rfl) (yes (by rw [ef]; exact decide_eq_true c))
          · refine ifN (decide_eq_false (fun e => c (by injection e with e; omega))) ⟨fs, kvs, _, rfl, g, hd, hk, nd, fun x => ?_⟩
            rw [hm, tk, List.filter_append, List.mem_append]
            have e0 : N.fits k o = false := by rw [ef]; exact decide_eq_false c
            simp [e0]
      · rintro σ Hc ⟨fs, kvs, e5, rfl, g, hd, hk, nd, hm⟩
        rw [List.take_length] at hm
        refine ⟨fs, kvs, _, _, rfl, g, hd, hk, nd, fun o => ?_⟩
        rw [hm, take_snoc hi, List.flatMap_append, List.mem_append]
        simp
    · rintro σ Hc ⟨fs, kvs, e4, e5, rfl, g, hd, hk, nd, hm⟩
      rw [List.take_length] at hm
      have hb : ∀ x ∈ ps.flatMap fun p => (N.follow.getD p []).filter (N.fits k), x < 13 := fun x hx => by
        obtain ⟨q, hq, h⟩ := List.mem_flatMap.mp hx
        have := ok.lt _ (getD_mem (hp q hq)) x (List.mem_filter.mp h).1
        have := ok.few
        omega
      have fl : fs.length ≤ 13 := by
        have := List.Nodup.length_le_of_subset nd (l₂ := List.range 13) fun x hx => List.mem_range.mpr (hb x ((hm x).mp hx))
        rwa [List.length_range] at this
      walk_at "nf"
      refine ⟨_, rfl, fd, kvs, fs.map fun n : Nat => (n : Int), rfl, Rd.of hd, by rw [hk, List.map_map]; rfl, by rw [List.length_map]; omega, fun ys q hp hs hq => ?_⟩
      have e := srt_is hp hs nd hm hb
      subst e
      have gz := g.allocZ (o := .lst (vN (N.onw ps k))) hq
      have ev : (List.map V.int (List.map (fun n : Nat => (n : Int)) (srt (ps.flatMap fun p => (N.follow.getD p []).filter (N.fits k))))) = vN (N.onw ps k) := by rw [List.map_map]; rfl
      rw [ev]
      exact x_tupOf (isL_vN upd_same) gz.zh fun v Z' H' g' h' => kk v Z' H' (gz.trans g') h'
def spAcc (C : Addr) : Sp := fun vs H Q _ => ∃ (Z : Hp) (v0 v1 : V) (N : Net) (ps : List Nat), vs = [v0, v1] ∧ Same Z H ∧ isNet C Z v0 N ∧ isT isN Z v1 ps ∧ ps.length ≤ 1000 ∧
  ∀ Z' H', Gr Z H Z' H' → Q (.bl (N.acc ps)) H'
abbrev N_accepts : List Str := ["network", "places", "place"]
theorem sc_accepts : FnScope N_accepts ["network", "places"] (defScope (top 12)) := ⟨rfl, rfl, rfl, by decide +kernel, rfl, by decide +kernel, by decide +kernel⟩
theorem ok_accepts (T : Txt K mg) : FnOk P w K mg base CX0 1 T.d_accepts.f T.d_accepts.fd ["network", "places"] (spAcc T.c_Network.C) := by
  refine T.d_accepts.fn.ok sc_accepts (fun vs H Q E h => ?_) (fun cdv A outer s H vs Q E hr h => ?_)
  · obtain ⟨Z, v0, v1, N, ps, rfl, _⟩ := h
    rfl
  · obtain ⟨Z, v0, v1, N, ps, rfl, sub, hN, hps, hl, kk⟩ := h
    refine ⟨_, pss_one (ps_ret (pe_callB (cr_anyK K rfl rfl) (by rfl) T.b_any (by decide +kernel) (pa_cons (pe_lc (own := [("place", 2)]) rfl sc_accepts.nd (pi_tupK K rfl (pv 1)) (blkOk_by (N := N_accepts) (sc := defScope (top 12)) (by decide +kernel)) (fun _ _ _ _ _ => pg_name (i := 2) sc_accepts.nd rfl (.inl rfl) (.inr rfl)) (fun _ _ _ _ _ => pts_nil) (fun _ _ _ _ _ => pe_cmpR (op_in_seqK K rfl) (pv 2) (pe_fldK K rfl (pv 0) rfl) rfl)) pa_nil))), ?_⟩
    obtain ⟨an, dxn, vm, vf, ve, rfl, hn, hvm, hvf, hve⟩ := hN
    walk_at "nf"
    refine c_tup ⟨_, rfl, k_mapT (K := K) (p := isN) (q := isB) (fun p => N.ends.contains p) hps sub (by omega) (by decide) (fun i p wp Z1 H1 R hp pp g1 hR => ?_) (fun v Z' H' g' hv => ?_)⟩
    · obtain rfl : wp = .int (p : Int) := pp
      obtain ⟨ae, rfl, hae⟩ := isL_N.mp hve
      walk_at "nf"
      refine ⟨_, rfl, _, rfl, an, _, dxn, _, _, rfl, g1.zh _ _ (g1.z _ _ hn), T.c_Network.cl, T.n_Network_ends, rfl, ae, vN N.ends, rfl, .inl (SqL.of (g1.zh _ _ (g1.z _ _ hae))), rfl, flat_nat, ?_⟩
      exact hR _ Z1 H1 (Grow.refl g1.zh) (congrArg V.bl inV_nat)
    · refine x_any hv g'.zh ?_
      rw [List.any_map]
      exact kk Z' H' g'
def spDesc (C : Addr) : Sp := fun vs H Q _ => ∃ (Z : Hp) (v0 v1 : V) (N : Net) (u : List Nat), vs = [v0, v1] ∧ Same Z H ∧ isNet C Z v0 N ∧ isL isN Z v1 u ∧ N.Ok ∧
  ∀ Z' H', Gr Z H Z' H' → Q (.bl (N.desc u)) H'
theorem Net.onw_len (N : Net) (ps : List Nat) (k : Nat) : (N.onw ps k).length ≤ 13 := srt_len _
abbrev N_describes : List Str := ["network", "indexes", "places", "k"]
theorem sc_describes : FnScope N_describes ["network", "indexes"] (defScope (top 13)) := ⟨rfl, rfl, rfl, by decide +kernel, rfl, by decide +kernel, by decide +kernel⟩
theorem ok_describes (T : Txt K mg) : FnOk P w K mg base CX0 2 T.d_describes.f T.d_describes.fd ["network", "indexes"] (spDesc T.c_Network.C) := by
  refine T.d_describes.fn.ok sc_describes (fun vs H Q E h => ?_) (fun cdv A outer s H vs Q E hr h => ?_)
  · obtain ⟨Z, v0, v1, N, u, rfl, _⟩ := h
    rfl
  · obtain ⟨Z, v0, v1, N, u, rfl, sub, hN, hu1, ok, kk⟩ := h
    refine ⟨_, pss_cons (ps_set (i := 2) sc_describes.nd rfl (.inl rfl) (pe_tup (pa_cons (pe_int) pa_nil)))
  (pss_cons (ps_for PassesOwn.never rfl (pi_listK K rfl (pv 1)) (pg_name (i := 3) sc_describes.nd rfl (.inl rfl) (.inl rfl))
  (pss_one (ps_set (i := 2) sc_describes.nd rfl (.inl rfl) (pe_call (ok_onward T) (hr.mono (by decide)) (by rfl) T.d_onward.mg T.d_onward.fn.kp T.d_onward.b .nil pass0 (pa_cons (pv 0) (pa_cons (pv 2) (pa_cons (pv 3) pa_nil)))))))
  (pss_one (ps_ret (pe_call (ok_accepts T) (hr.mono (by decide)) (by rfl) T.d_accepts.mg T.d_accepts.fn.kp T.d_accepts.b .nil pass0 (pa_cons (pv 0) (pa_cons (pv 2) pa_nil)))))), ?_⟩
    walk_at "nf"
    refine a_tup1 (t_C (x_tupZ sub (by decide) fun t Z1 H1 g1 ht => ?_))
    refine f_list ⟨_, rfl, k_forL (K := K) (Z := Z) hu1 (fun i σ Hc => ∃ vp Z2 e3, σ = [some v0, some v1, some vp, e3] ∧ Gr Z H Z2 Hc ∧ isT isN Z2 vp ((u.take i).foldl N.onw [0]) ∧ (∀ p ∈ (u.take i).foldl N.onw [0], p < N.follow.length) ∧ ((u.take i).foldl N.onw [0]).length ≤ 1000)
      ⟨_, Z1, none, rfl, g1, isT_vN (xs := [0]) ht, by simpa using ok.some, by simp⟩ (fun i σ Hc ⟨_, _, _, _, g, _⟩ => g.z.trans g.zh) ?_ ?_⟩
    · rintro i k wk σ Hc hi pk ⟨vp, Z2, e3, rfl, g, hvp, hlt, hlen⟩
      obtain rfl : wk = .int (k : Int) := pk
      walk_at "nf"
      refine ⟨_, rfl, _, rfl, _, rfl, Z2, v0, vp, N, _, k, rfl, g.zh, Mono.mono g.z hN, hvp, ok, hlt, fun v Z3 H3 g3 hv => ?_⟩
      rw [take_snoc hi, List.foldl_append]
      exact ⟨v, Z3, _, rfl, g.trans g3, hv, fun p hp => ok.onw_lt hlt hp, by have := N.onw_len ((u.take i).foldl N.onw [0]) k; show (N.onw _ k).length ≤ _; omega⟩
    · rintro σ Hc ⟨vp, Z2, e3, rfl, g, hvp, hlt, hlen⟩
      rw [List.take_length] at hvp hlen
      walk_at "nf"
      exact ⟨_, rfl, _, rfl, Z2, v0, vp, N, _, rfl, g.zh, Mono.mono g.z hN, hvp, hlen, fun Z3 H3 g3 => kk Z3 H3 (g.trans g3)⟩
end
end K87

set_option autoImplicit true
set_option Elab.async false
set_option linter.all false
set_option maxRecDepth 100000
set_option maxHeartbeats 4000000
set_option pp.deepTerms.threshold 6
/-! K87D8: least_automaton. -/
namespace K87
open PySem L2 PySem.Spec PyProof.Rows
section
local macro_rules | `(tactic| walk_at "nf") => `(tactic| try dsimp only [tSeq, tAsg, gName, tRet, tRetN, tDrop, tNext, tIfS, tTest, tB, tOp, tUn, tNil, tCons, tCB, tC, tAnd, tOr, tNot, tAndV, tOrV, tNotV, tIf, sDPut, sFld, sFldAug, tM0, tM1, tBM, tBM0, tMeth, tCall, sGPut, tGGet, tGNin, tDGet, tDNotIn, tDIn, tFld])
variable {P : Program} {w : World} {K : PySem.W.Frag} {mg : Str → Option Value} {base : Heap}
def mkL (b : Bool) : Leaf := .num (if b = true then 1 else 0)
theorem mkL_inj (a b : Bool) (h : mkL a = mkL b) : a = b := by
  cases a <;> cases b <;> first | rfl | (unfold mkL at h; injection h with h; exact absurd h (by decide))
def spLA (C : Addr) : Sp := fun vs H Q _ => ∃ (Z : Hp) (v0 : V) (A : Aut) (r : Nat), vs = [v0] ∧ Same Z H ∧ isAut C Z v0 A ∧ A.Ok r ∧ A.rows.length ≤ 10000 ∧ r ≤ 10000 ∧
  ∀ v Z' H' B, Gr Z H Z' H' → isAut C Z' v B → B.Ok r → B.rows.length ≤ A.rows.length → (∀ u : List Nat, (∀ k ∈ u, k < r) → B.has u = A.has u) → Q v H'
abbrev N_least_automaton : List Str := ["automaton", "parts", "firsts", "part", "rows", "other", "state", "order", "word", "place", "at", "told"]
theorem sc_least_automaton : FnScope N_least_automaton ["automaton"] (defScope (top 15)) := ⟨rfl, rfl, rfl, by decide +kernel, rfl, by decide +kernel, by decide +kernel⟩
theorem ok_least_automaton (T : Txt K mg) : FnOk P w K mg base CX0 3 T.d_least_automaton.f T.d_least_automaton.fd ["automaton"] (spLA T.c_Automaton.C) := by
  refine T.d_least_automaton.fn.ok sc_least_automaton (fun vs H Q E h => ?_) (fun cdv A outer s H vs Q E hr h => ?_)
  · obtain ⟨Z, v0, A, r, rfl, _⟩ := h
    rfl
  · obtain ⟨Z, v0, B, r, rfl, sub, hA, ok, few, hr10, kk⟩ := h
    have hu := hu_of hr
    refine ⟨_, pss_cons (ps_set (i := 1) sc_least_automaton.nd rfl (.inr rfl) (pe_call (ok_classes T (gkLeaf P w)) (hr.mono (by decide)) (by rfl) T.d_classes.mg T.d_classes.fn.kp T.d_classes.b .nil pass0 (pa_cons (pe_fldK K rfl (pv 0) rfl) (pa_cons (pe_fldK K rfl (pv 0) rfl) pa_nil))))
  (pss_cons (ps_set (i := 2) sc_least_automaton.nd rfl (.inr rfl) (pe_lc (own := [("part", 3)]) rfl sc_least_automaton.nd (pi_range1 (by rfl) T.b_range (pa_cons (pe_op op_add (pe_callB (cr_maxK K rfl rfl) (by rfl) T.b_max (by decide +kernel) (pa_cons (pv 1) pa_nil)) (pe_int)) pa_nil)) (blkOk_by (N := N_least_automaton) (sc := defScope (top 15)) (by decide +kernel)) (fun _ _ _ _ _ => pg_name (i := 3) sc_least_automaton.nd rfl (.inl rfl) (.inr rfl)) (fun _ _ _ _ _ => pts_nil) (fun _ _ _ _ _ => pe_bmK K rfl PySem.F.plainAttrs_list PySem.F.slot_list_index PySem.F.type_list_index (mt_indexK K rfl) (pv 1) (pa_cons (pv 3) pa_nil))))
  (pss_cons (ps_set (i := 4) sc_least_automaton.nd rfl (.inr rfl) (pe_lc (own := [("state", 6)]) rfl sc_least_automaton.nd (pi_listK K rfl (pv 2)) (blkOk_by (N := N_least_automaton) (sc := defScope (top 15)) (by decide +kernel)) (fun _ _ _ _ _ => pg_name (i := 6) sc_least_automaton.nd rfl (.inl rfl) (.inr rfl)) (fun _ _ _ _ _ => pts_nil) (fun _ _ _ _ _ => pe_lc (own := [("other", 5)]) rfl sc_least_automaton.nd (pi_listK K rfl (pe_ix (ix_listK K rfl) (pe_fldK K rfl (pv 0) rfl) (pv 6) (fun _ _ => rfl))) (blkOk_in (N := N_least_automaton) (sc0 := defScope (top 15)) rfl rfl (by decide +kernel)) (fun _ _ _ _ _ => pg_name (i := 5) sc_least_automaton.nd rfl (.inl rfl) (.inr rfl)) (fun _ _ _ _ _ => pts_nil) (fun _ _ _ _ _ => pe_ix (ix_listK K rfl) (pv 1) (pv 5) (fun _ _ => rfl)))))
  (pss_cons (ps_setLc (i := 7) (own := [("state", 6), ("word", 8)]) rfl sc_least_automaton.nd rfl rfl (sw_true rfl rfl rfl (by decide +kernel)) (pi_listK K rfl (pe_call (ok_reached_behind T) (hr.mono (by decide)) (by rfl) T.d_reached_behind.mg T.d_reached_behind.fn.kp T.d_reached_behind.b .nil pass0 (pa_cons (pv 4) (pa_cons (pe_int) pa_nil)))) (blkOk_by (N := N_least_automaton) (sc := defScope (top 15)) (by decide +kernel)) (fun _ _ _ _ _ => pg_tupK (n := 2) K rfl rfl (pgs_cons (pg_name (i := 6) sc_least_automaton.nd rfl (.inl rfl) (.inr rfl)) (pgs_cons (pg_name (i := 8) sc_least_automaton.nd rfl (.inl rfl) (.inr rfl)) pgs_nil))) (fun _ _ _ _ _ => pts_nil) (fun _ _ _ _ _ => pv 6))
  (pss_cons (ps_set (i := 9) sc_least_automaton.nd rfl (.inr rfl) (pe_dc (own := [("at", 10), ("state", 6)]) rfl sc_least_automaton.nd (pi_enumK K rfl (by rfl) T.b_enumerate (pa_cons (pv 7) pa_nil)) (blkOk_by (N := N_least_automaton) (sc := defScope (top 15)) (by decide +kernel)) (fun _ _ _ _ _ => pg_tupK (n := 2) K rfl rfl (pgs_cons (pg_name (i := 10) sc_least_automaton.nd rfl (.inl rfl) (.inr rfl)) (pgs_cons (pg_name (i := 6) sc_least_automaton.nd rfl (.inl rfl) (.inr rfl)) pgs_nil))) (fun _ _ _ _ _ => pts_nil) (fun _ _ _ _ _ => pv 6) (fun _ _ _ _ _ => pv 10)))
  (pss_cons (ps_setLc (i := 11) (own := [("state", 6)]) rfl sc_least_automaton.nd rfl rfl (sw_true rfl rfl rfl (by decide +kernel)) (pi_listK K rfl (pv 7)) (blkOk_by (N := N_least_automaton) (sc := defScope (top 15)) (by decide +kernel)) (fun _ _ _ _ _ => pg_name (i := 6) sc_least_automaton.nd rfl (.inl rfl) (.inr rfl)) (fun _ _ _ _ _ => pts_nil) (fun _ _ _ _ _ => pe_ix (ix_listK K rfl) (pe_fldK K rfl (pv 0) rfl) (pe_ix (ix_listK K rfl) (pv 2) (pv 6) (fun _ _ => rfl)) (fun _ _ => rfl)))
  (pss_one (ps_ret (pe_make T.c_Automaton.mkc (ok_Automaton___init__ T) (hr.mono (by decide)) (by rfl) T.c_Automaton.mg T.c_Automaton.init.b .nil pass0 (pa_cons (pe_lc (own := [("state", 6)]) rfl sc_least_automaton.nd (pi_listK K rfl (pv 7)) (blkOk_by (N := N_least_automaton) (sc := defScope (top 15)) (by decide +kernel)) (fun _ _ _ _ _ => pg_name (i := 6) sc_least_automaton.nd rfl (.inl rfl) (.inr rfl)) (fun _ _ _ _ _ => pts_nil) (fun _ _ _ _ _ => pe_lc (own := [("other", 5)]) rfl sc_least_automaton.nd (pi_listK K rfl (pe_ix (ix_listK K rfl) (pv 4) (pv 6) (fun _ _ => rfl))) (blkOk_in (N := N_least_automaton) (sc0 := defScope (top 15)) rfl rfl (by decide +kernel)) (fun _ _ _ _ _ => pg_name (i := 5) sc_least_automaton.nd rfl (.inl rfl) (.inr rfl)) (fun _ _ _ _ _ => pts_nil) (fun _ _ _ _ _ => pe_dget hu (pv 9) (pv 5) (fun _ _ => rfl)))) (pa_cons (pv 11) pa_nil)))))))))), ?_⟩
    obtain ⟨aa, dxa, vr, va, rfl, ha, hvr, hva⟩ := hA
    have wd : Wide B.rows := ⟨ok.rows.lt, few⟩
    have hw : ∀ row ∈ B.rows, row.length ≤ 10000 := fun row h => by rw [ok.rows.len _ h]; exact hr10
    walk_at "nf"
    -- parts
    have hmk : isL (gkLeaf P w).key Z va (B.acc.map mkL) := by
      obtain ⟨b, us, rfl, hb, pr⟩ := hva
      exact ⟨b, us, rfl, hb, pr_map pr fun v x h => ⟨x, h, rfl⟩⟩
    refine ⟨_, rfl, aa, _, dxa, _, _, rfl, sub _ _ ha, T.c_Automaton.cl, T.n_Automaton_rows, rfl, _, rfl, aa, _, dxa, _, _, rfl, sub _ _ ha, T.c_Automaton.cl, T.n_Automaton_accepts, rfl, ?_⟩
    refine ⟨Z, vr, va, B.rows, _, rfl, sub, hvr, hmk, wd, by rw [List.length_map, ok.len], ok.rows.pos, hw, fun vp Z1 H1 parts m g1 al hp => ?_⟩
    have pm := al.pm
    have mfew := al.few
    -- firsts
    refine c_range ?_
    walk_at "nf"
    refine ⟨_, rfl, x_max hp g1.zh ((pm.mem m).mpr (Nat.le_refl _)) (fun x hx => (pm.mem x).mp hx) ⟨_, _, rfl, rfl, ?_⟩⟩
    refine k_mapR (n := m + 1) (q := isN) parts.idxOf rfl g1.zh (by omega) (by decide) (fun i Z2 H2 R hi g2 hR => ?_) (fun vf Z2 H2 g2 hvf => ?_)
    · exact ⟨_, rfl, (x_index (Mono.mono g2.z hp) g2.zh ((pm.mem i).mpr (by omega)) (hR _ Z2 H2 (Grow.refl g2.zh) rfl)).1, _, rfl, (x_index (K := K) (Mono.mono g2.z hp) g2.zh ((pm.mem i).mpr (by omega)) (hR _ Z2 H2 (Grow.refl g2.zh) rfl)).2⟩
    replace hvf : isL isN Z2 vf (firsts parts m) := hvf
    have g2 := g1.trans g2
    have hp2 : isL isN Z2 vp parts := Mono.mono (by assumption : Gr Z1 H1 Z2 H2).z hp
    have hfl : ∀ x ∈ firsts parts m, x < B.rows.length := by
      intro x hx
      obtain ⟨c, hc, rfl⟩ := List.mem_map.mp hx
      exact (al.first (c := c) (Nat.lt_succ_iff.mp (List.mem_range.mp hc))).1
    have nfl : (firsts parts m).length ≤ 1000000 := by rw [firsts_len]; omega
    -- rows
    refine c_list ⟨_, rfl, k_mapL (K := K) (p := isN) (q := isL isN) (xs := firsts parts m) (fun s => (B.rows.getD s []).map fun o => parts.getD o 0) hvf g2.zh nfl (by decide) (fun i x wx Z3 H3 R hx px g3 hR => ?_) (fun vro Z3 H3 g3 hro => ?_)⟩
    · obtain rfl : wx = .int (x : Int) := px
      have mx := hfl x (List.mem_of_getElem? hx)
      have hrow : B.rows[x]? = some (B.rows.getD x []) := get_of mx
      have ha3 := g3.zh _ _ ((g2.z.trans g3.z) _ _ ha)
      refine c_list ⟨_, rfl, aa, _, dxa, _, _, rfl, ha3, T.c_Automaton.cl, T.n_Automaton_rows, rfl, _, rfl, x_ix (Mono.mono (g2.z.trans g3.z) hvr) g3.zh hrow fun wr hwr => ?_⟩
      refine k_mapL (K := K) (p := isN) (q := isN) (fun o => parts.getD o 0) hwr g3.zh (by have := hw _ (List.mem_of_getElem? hrow); omega) (by decide) (fun j y wy Z4 H4 R4 hy py g4 hR4 => ?_) (fun v Z4 H4 g4 hv => hR v Z4 H4 g4 hv)
      obtain rfl : wy = .int (y : Int) := py
      have my : y < parts.length := by rw [al.len]; exact ok.rows.lt _ (List.mem_of_getElem? hrow) y (List.mem_of_getElem? hy)
      exact ⟨_, rfl, _, rfl, x_ix (Mono.mono (g3.z.trans g4.z) hp2) g4.zh (get_of (d := 0) my) fun w hw => hR4 w Z4 H4 (Grow.refl g4.zh) hw⟩
    have hro : isL (isL isN) Z3 vro (classRows B.rows parts m) := hro
    have g3' := g2.trans g3
    have R1 := class_rows al ok.rows
    have wd1 : Wide (classRows B.rows parts m) := ⟨R1.lt, by rw [class_len]; omega⟩
    -- order
    refine c_list ?_
    walk_at "nf"
    refine ⟨_, rfl, Z3, vro, _, 0, rfl, g3'.zh, hro, wd1, R1.pos, fun u Z4 H4 os g4 cl hu' => ?_⟩
    have osl : os.length ≤ 1000000 := by have := cl.len; rw [class_len] at this; omega
    refine k_mapF (q := isN) id hu' g4.zh osl (by decide) (by decide) (fun i n x Z5 H5 R hx g5 hR => ⟨_, rfl, hR _ Z5 H5 (Grow.refl g5.zh) rfl⟩) (fun vo Z5 H5 g5 ho => ?_)
    rw [List.map_id] at ho
    have g5' := (g3'.trans g4).trans g5
    have s35 : Same Z3 Z5 := g4.z.trans g5.z
    -- place
    refine d_enum ⟨_, rfl, k_place (K := K) rfl ho cl.nd g5.zh (by decide) (by decide) (by decide) rfl rfl osl fun pd Z6 H6 g6 hp0 zp hpd => ?_⟩
    have g6' := g5'.trans g6
    have ho6 := Mono.mono g6.z ho
    -- told
    refine c_list ⟨_, rfl, k_mapL (K := K) (p := isN) (q := isB) (fun s => B.acc.getD ((firsts parts m).getD s 0) false) ho6 g6.zh osl (by decide) (fun i x wx Z7 H7 R hx px g7 hR => ?_) (fun vt Z7 H7 g7 ht => ?_)⟩
    · obtain rfl : wx = .int (x : Int) := px
      have mx := cl.lt x (List.mem_of_getElem? hx)
      have mx' : x < (firsts parts m).length := by rw [firsts_len, ← class_len]; exact mx
      have ha7 := g7.zh _ _ ((g6'.z.trans g7.z) _ _ ha)
      have s27 : Same Z2 Z7 := g3.z.trans (s35.trans (g6.z.trans g7.z))
      have my : (firsts parts m).getD x 0 < B.acc.length := by rw [ok.len]; exact hfl _ (getD_mem mx')
      exact ⟨_, rfl, aa, _, dxa, _, _, rfl, ha7, T.c_Automaton.cl, T.n_Automaton_accepts, rfl, _, rfl, _, rfl, x_ix (Mono.mono s27 hvf) g7.zh (get_of (d := 0) mx') fun w hw => by
        obtain rfl : w = .int (((firsts parts m).getD x 0 : Nat) : Int) := hw
        exact x_ix (Mono.mono (g6'.z.trans g7.z) hva) g7.zh (get_of (d := false) my) fun w hw => hR w Z7 H7 (Grow.refl g7.zh) hw⟩
    have g7' := g6'.trans g7
    have hpd7 := g7.keepH hpd
    -- Automaton(..)
    refine a_new2 (c_list ⟨_, rfl, k_mapL (K := K) (p := isN) (q := isL isN) (fun s => ((classRows B.rows parts m).getD s []).map os.idxOf) (Mono.mono g7.z ho6) g7.zh osl (by decide) (fun i x wx Z8 H8 R hx px g8 hR => ?_) (fun vn Z8 H8 g8 hn => ⟨_, rfl, ?_⟩)⟩)
    · obtain rfl : wx = .int (x : Int) := px
      have mx := List.mem_of_getElem? hx
      have hrow : (classRows B.rows parts m)[x]? = some ((classRows B.rows parts m).getD x []) := get_of (cl.lt x mx)
      have s38 : Same Z3 Z8 := s35.trans (g6.z.trans (g7.z.trans g8.z))
      refine c_list ⟨_, rfl, _, rfl, x_ix (Mono.mono s38 hro) g8.zh hrow fun wr hwr => ?_⟩
      refine k_mapL (K := K) (p := isN) (q := isN) os.idxOf hwr g8.zh (by rw [R1.len _ (List.mem_of_getElem? hrow)]; omega) (by decide) (fun j y wy Z9 H9 R9 hy py g9 hR9 => ?_) (fun v Z9 H9 g9 hv => hR v Z9 H9 g9 hv)
      obtain rfl : wy = .int (y : Int) := py
      have my : y ∈ os := cl.step x mx y (List.mem_of_getElem? hy)
      have hpd9 := g9.keepH (g8.keepH hpd7)
      have hval := placeF_val (f := kN) kN_inj 0 os y
      rw [if_pos my, Nat.zero_add] at hval
      exact ⟨_, rfl, _, rfl, pd, _, rfl, hval ▸ DGet.k (k := kN y) hpd9, hR9 _ Z9 H9 (Grow.refl g9.zh) rfl⟩
    · have lk := least_aut mkL_inj ok al cl
      exact x_new2 g8.zh fun x dx Z9 H9 g9 hx => kk (.ref x) Z9 H9 ⟨keptRows (classRows B.rows parts m) os, os.map fun s => B.acc.getD ((firsts parts m).getD s 0) false⟩ ((g7'.trans g8).trans g9) ⟨x, dx, vn, vt, rfl, hx, Mono.mono g9.z hn, Mono.mono (g8.z.trans g9.z) ht⟩ lk.1 lk.2.1 lk.2.2
end
end K87

set_option autoImplicit true
set_option Elab.async false
set_option linter.all false
set_option maxRecDepth 100000
set_option maxHeartbeats 4000000
set_option pp.deepTerms.threshold 6
/-! K87D9: automaton_of, _automaton, codes, matches. -/
namespace K87
open PySem L2 PySem.Spec PyProof.Rows
section
local macro_rules | `(tactic| walk_at "nf") => `(tactic| try dsimp only [tSeq, tAsg, gName, tRet, tRetN, tDrop, tNext, tIfS, tTest, tB, tOp, tUn, tNil, tCons, tCB, tC, tAnd, tOr, tNot, tAndV, tOrV, tNotV, tIf, sDPut, sFld, sFldAug, tM0, tM1, tBM, tBM0, tMeth, tCall, sGPut, tGGet, tGNin, tDGet, tDNotIn, tDIn, tFld])
variable {P : Program} {w : World} {K : PySem.W.Frag} {mg : Str → Option Value} {base : Heap}
theorem pl_app {α : Type} [DecidableEq α] {os : List α} {x y : α} (h : x ∈ os) : pl (os ++ [y]) x = pl os x := by
  unfold pl
  rw [List.idxOf_append, if_pos h]
theorem pl_new {α : Type} [DecidableEq α] {os : List α} {y : α} (h : y ∉ os) : pl (os ++ [y]) y = os.length := by
  unfold pl
  rw [List.idxOf_append, if_neg h, List.idxOf_cons_self]; omega
theorem getD_app {α : Type} {l m : List α} {i : Nat} {d : α} (h : i < l.length) : (l ++ m).getD i d = l.getD i d := by
  rw [List.getD_eq_getElem?_getD, List.getD_eq_getElem?_getD, List.getElem?_append_left h]
theorem SubC.grow {N : Net} {r : Nat} {os rs : List (List Nat)} {x : List Nat} (s : SubC N r os rs) (hx : x ∉ os) (c : x = srt x ∧ ∀ p ∈ x, p < N.follow.length) : SubC N r (os ++ [x]) rs := by
  obtain ⟨t, et⟩ := s.first
  refine ⟨⟨t ++ [x], by rw [et]; rfl⟩, ?_, fun ps hp => ?_, by rw [List.length_append]; have := s.le; omega, fun i hi => ?_, fun i hi k hk => ?_⟩
  · rw [List.nodup_append]
    exact ⟨s.nd, by simp, fun a ha b hb e => hx (by rw [← List.mem_singleton.mp hb, ← e]; exact ha)⟩
  · rcases List.mem_append.mp hp with h | h
    · exact s.canon ps h
    · rw [List.mem_singleton.mp h]; exact c
  · have := s.le
    rw [s.row i hi, getD_app (by omega)]
    exact List.map_congr_left fun k hk => (pl_app (s.mem i hi k (List.mem_range.mp hk))).symm
  · have := s.le
    rw [getD_app (by omega)]
    exact List.mem_append_left _ (s.mem i hi k hk)
theorem SubC.push {N : Net} {r : Nat} {os rs : List (List Nat)} {ps : List Nat} (s : SubC N r os rs) (hl : os[rs.length]? = some ps) (hm : ∀ k, k < r → N.onw ps k ∈ os) : SubC N r os (rs ++ [(List.range r).map fun k => pl os (N.onw ps k)]) := by
  have hlt : rs.length < os.length := (List.getElem?_eq_some_iff.mp hl).1
  have e0 : os.getD rs.length [] = ps := getD_some hl
  refine ⟨s.first, s.nd, s.canon, by rw [List.length_append]; exact hlt, fun i hi => ?_, fun i hi k hk => ?_⟩
  · by_cases c : i < rs.length
    · rw [getD_app c]; exact s.row i c
    · rw [List.length_append] at hi
      have : i = rs.length := by simp at hi; omega
      subst this
      rw [e0, List.getD_eq_getElem?_getD, List.getElem?_append_right (Nat.le_refl _), Nat.sub_self]; rfl
  · by_cases c : i < rs.length
    · exact s.mem i c k hk
    · rw [List.length_append] at hi
      have : i = rs.length := by simp at hi; omega
      subst this
      rw [e0]; exact hm k hk
theorem srt_srt (xs : List Nat) : srt xs = srt (srt xs) := by
  unfold srt
  refine List.filter_congr fun o ho => ?_
  rw [decide_eq_decide, List.mem_filter]
  exact ⟨fun h => ⟨ho, decide_eq_true h⟩, fun h => of_decide_eq_true h.2⟩
def kT (ps : List Nat) : List Key := ps.map kN
theorem kT_inj (a b : List Nat) (h : kT a = kT b) : a = b := by
  unfold kT at h
  exact (List.map_inj_right fun x y e => kN_inj x y e).mp h
theorem kT_v (ps : List Nat) : (kT ps).map kV = vN ps := by
  unfold kT vN
  rw [List.map_map]; rfl
theorem lt_dec {a b : Nat} : decide ((a : Int) < (b : Int)) = decide (a < b) := by
  rw [decide_eq_decide]; omega
/-- the state ahead of each turn -/
structure AOH (Z H : Hp) (N : Net) (r : Nat) (od fd rd : Addr) (os rs : List (List Nat)) (Z1 Hc : Hp) : Prop where
  gr : Gr Z H Z1 Hc
  zo : Z1 od = none
  zf : Z1 fd = none
  zr : Z1 rd = none
  sub : SubC N r os rs
  od : ∃ vs, Hc od = some (.lst vs) ∧ Paired (isT isN Z1) vs os
  fd : Hc fd = some (.dT (placeF kT 0 os))
  rd : ∃ vs, Hc rd = some (.lst vs) ∧ Paired (isL isN Z1) vs rs
def spAO (CN CA : Addr) : Sp := fun vs H Q _ => ∃ (Z : Hp) (v0 : V) (N : Net) (r : Nat), vs = [v0, .int (r : Int), .bl false] ∧ Same Z H ∧ isNet CN Z v0 N ∧ N.Ok ∧ r ≤ 100 ∧
  ∀ v Z' H' B, Gr Z H Z' H' → isAut CA Z' v B → B.Ok r → B.rows.length ≤ 10000 → (∀ u : List Nat, (∀ k ∈ u, k < r) → B.has u = N.desc u) → Q v H'
abbrev N_automaton_of : List Str := ["network", "letters", "anywhere", "order", "found", "rows", "places", "row", "k", "other"]
theorem sc_automaton_of : FnScope N_automaton_of ["network", "letters", "anywhere"] (defScope (top 14)) := ⟨rfl, rfl, rfl, by decide +kernel, rfl, by decide +kernel, by decide +kernel⟩
theorem ok_automaton_of (T : Txt K mg) : FnOk P w K mg base CX0 4 T.d_automaton_of.f T.d_automaton_of.fd ["network", "letters", "anywhere"] (spAO T.c_Network.C T.c_Automaton.C) := by
  refine T.d_automaton_of.fn.ok sc_automaton_of (fun vs H Q E h => ?_) (fun cdv A outer s H vs Q E hr h => ?_)
  · obtain ⟨Z, v0, N, r, rfl, _⟩ := h
    rfl
  · obtain ⟨Z, v0, N, r, rfl, sub, hN, ok, hr100, kk⟩ := h
    have hu := hu_of hr
    refine ⟨_, pss_cons (ps_set (i := 3) sc_automaton_of.nd rfl (.inl rfl) (pe_lst (pa_cons (pe_tup (pa_cons (pe_int) pa_nil)) pa_nil)))
  (pss_cons (ps_set (i := 4) sc_automaton_of.nd rfl (.inl rfl) (pe_dispT hu (pe_tup (pa_cons (pe_int) pa_nil)) (pe_int)))
  (pss_cons (ps_set (i := 5) sc_automaton_of.nd rfl (.inl rfl) (pe_lst pa_nil))
  (pss_cons (ps_while PassesOwn.never (pt_cmpR op_lt (pe_callB (call_len_seqK K rfl) (by rfl) T.b_len (by decide +kernel) (pa_cons (pv 5) pa_nil)) (pe_callB (call_len_seqK K rfl) (by rfl) T.b_len (by decide +kernel) (pa_cons (pv 3) pa_nil)) (nomark _))
  (pss_cons (ps_set (i := 6) sc_automaton_of.nd rfl (.inl rfl) (pe_ix (ix_listK K rfl) (pv 3) (pe_callB (call_len_seqK K rfl) (by rfl) T.b_len (by decide +kernel) (pa_cons (pv 5) pa_nil)) (fun _ _ => rfl)))
  (pss_cons (ps_set (i := 7) sc_automaton_of.nd rfl (.inl rfl) (pe_lst pa_nil))
  (pss_cons (ps_for PassesOwn.never rfl (pi_range1 (by rfl) T.b_range (pa_cons (pv 1) pa_nil)) (pg_name (i := 8) sc_automaton_of.nd rfl (.inl rfl) (.inl rfl))
  (pss_cons (ps_set (i := 9) sc_automaton_of.nd rfl (.inl rfl) (pe_call (ok_onward T) (hr.mono (by decide)) (by rfl) T.d_onward.mg T.d_onward.fn.kp T.d_onward.b .nil pass0 (pa_cons (pv 0) (pa_cons (pv 6) (pa_cons (pv 8) pa_nil)))))
  (pss_cons (ps_if (pt_val (pv 2))
  (pss_one (ps_set (i := 9) sc_automaton_of.nd rfl (.inl rfl) (pe_callTy (call_tuple_ofK K rfl) (by rfl) T.b_tuple (by decide +kernel) (pa_cons (pe_callB (call_sortedDI rfl) (by rfl) T.b_sorted (by decide +kernel) (pa_cons (pe_op (op_catAK K rfl) (pv 9) (pe_tup (pa_cons (pe_int) pa_nil))) pa_nil)) pa_nil))))
  (pss_nil))
  (pss_cons (ps_if (pt_cmp (pc_dnotin hu (pv 9) (pv 4)))
  (pss_cons (ps_dput hu (pv 4) (pv 9) (pe_callB (call_len_seqK K rfl) (by rfl) T.b_len (by decide +kernel) (pa_cons (pv 3) pa_nil)) rfl)
  (pss_one (ps_expr (pe_bmK K rfl PySem.F.plainAttrs_list PySem.F.slot_list_append PySem.F.type_list_append mt_append (pv 3) (pa_cons (pv 9) pa_nil)))))
  (pss_nil))
  (pss_one (ps_expr (pe_bmK K rfl PySem.F.plainAttrs_list PySem.F.slot_list_append PySem.F.type_list_append mt_append (pv 7) (pa_cons (pe_dget hu (pv 4) (pv 9) (fun _ _ => rfl)) pa_nil))))))))
  (pss_one (ps_expr (pe_bmK K rfl PySem.F.plainAttrs_list PySem.F.slot_list_append PySem.F.type_list_append mt_append (pv 5) (pa_cons (pv 7) pa_nil))))))))
  (pss_one (ps_ret (pe_call (ok_least_automaton T) (hr.mono (by decide)) (by rfl) T.d_least_automaton.mg T.d_least_automaton.fn.kp T.d_least_automaton.b .nil pass0 (pa_cons (pe_make T.c_Automaton.mkc (ok_Automaton___init__ T) (hr.mono (by decide)) (by rfl) T.c_Automaton.mg T.c_Automaton.init.b .nil pass0 (pa_cons (pv 5) (pa_cons (pe_lc (own := [("places", 6)]) rfl sc_automaton_of.nd (pi_listK K rfl (pv 3)) (blkOk_by (N := N_automaton_of) (sc := defScope (top 14)) (by decide +kernel)) (fun _ _ _ _ _ => pg_name (i := 6) sc_automaton_of.nd rfl (.inl rfl) (.inr rfl)) (fun _ _ _ _ _ => pts_nil) (fun _ _ _ _ _ => pe_call (ok_accepts T) (hr.mono (by decide)) (by rfl) T.d_accepts.mg T.d_accepts.fn.kp T.d_accepts.b .nil pass0 (pa_cons (pv 0) (pa_cons (pv 6) pa_nil)))) pa_nil))) pa_nil))))))), ?_⟩
    walk_at "nf"
    -- order = [(0,)]
    refine a_lst1 (a_tup1 (t_C (x_tupZ sub (by decide) fun t Z1 H1 g1 ht => x_lstN (by show 1 ≤ 1000; decide) fun od hod => ?_)))
    have hod0 := g1.free hod
    have g2 : Gr Z H Z1 _ := g1.alloc (o := .lst [.ref t]) hod
    -- found = {(0,): 0}
    refine fun fd hfd => a_tup1 (t_C (x_tupZ (Z := Z1) (g2.alloc (o := .dT []) hfd).zh (by decide) fun t2 Z2 H2 g3 ht2 => t_C ⟨g3.keepH upd_same, t2, [kN 0], rfl, g3.zh _ _ ht2, ?_⟩))
    have nof : od ≠ fd := ne_of_none upd_same hfd
    have hfd0 := g2.free hfd
    have zf1 : Z1 fd = none := g2.zh.free hfd
    have zo1 : Z1 od = none := g1.zh.free hod
    have g4 := (g2.alloc (o := .dT []) hfd).trans g3
    have zf2 : Z2 fd = none := g3.keepZ zf1 upd_same
    have zo2 : Z2 od = none := g3.keepZ zo1 (by rw [upd_ne nof]; exact upd_same)
    have od2 : H2 od = some (.lst [.ref t]) := g3.keepH (by rw [upd_ne nof]; exact upd_same)
    have g5 := g4.mut (o := .dT [([kN 0], V.int 0)]) (.inl hfd0) zf2 (g3.keepH upd_same)
    -- rows = []
    refine a_lst0 (x_lstN (by decide) fun rd hrd => ?_)
    have hrd0 := g5.free hrd
    have nfr : fd ≠ rd := ne_of_none upd_same hrd
    have nor : od ≠ rd := ne_of_none (by rw [upd_ne nof]; exact od2) hrd
    have g6 := g5.alloc (o := .lst []) hrd
    have zr2 : Z2 rd = none := g5.zh.free hrd
    -- while
    refine ⟨fun m σ Hc => ∃ os rs Z1 e6 e7 e8 e9, σ = [some v0, some (.int (r : Int)), some (.bl false), some (.ref od), some (.ref fd), some (.ref rd), e6, e7, e8, e9] ∧ AOH Z H N r od fd rd os rs Z1 Hc ∧ m = 8192 - rs.length,
      ⟨_, [[0]], [], Z2, none, none, none, none, rfl, ⟨g6, zo2, zf2, zr2, ⟨⟨[], rfl⟩, by simp, fun ps hp => ?_, Nat.zero_le _, fun i hi => absurd hi (Nat.not_lt_zero _), fun i hi => absurd hi (Nat.not_lt_zero _)⟩, ⟨[.ref t], by rw [upd_ne nor, upd_ne nof]; exact od2, .cons ?_ .nil⟩, by rw [upd_ne nfr]; exact upd_same, ⟨[], upd_same, .nil⟩⟩, rfl⟩, ?_⟩
    · rw [List.mem_singleton.mp hp]
      exact ⟨by decide, by simpa using ok.some⟩
    · exact isT_vN (xs := [0]) (g3.z _ _ ht)
    rintro m σ Hc ⟨os, rs, Z3, e6, e7, e8, e9, rfl, R, rfl⟩
    obtain ⟨vo, hvo, pvo⟩ := R.od
    obtain ⟨vr, hvr, pvr⟩ := R.rd
    have few := R.sub.few
    have lle := R.sub.le
    walk_at "nf"
    refine ⟨_, rfl, x_lenm hvr (Paired.length pvr) ⟨_, rfl, x_lenm hvo (Paired.length pvo) ⟨_, _, rfl, rfl, _, rfl, ?_⟩⟩⟩
    by_cases hlt : rs.length < os.length
    · refine ifY (by rw [lt_dec]; exact decide_eq_true hlt) ⟨_, fun _ _ h => h, ?_⟩
      -- places = order[len(rows)]
      obtain ⟨ps, hps⟩ : ∃ ps, os[rs.length]? = some ps := ⟨_, List.getElem?_eq_getElem hlt⟩
      have mps := List.mem_of_getElem? hps
      have cps := R.sub.canon ps mps
      obtain ⟨vp, hvp, pvp⟩ := pr_r pvo hps
      refine ⟨_, rfl, _, rfl, x_lenm hvr (Paired.length pvr) (x_ixm hvo hvp ?_)⟩
      -- row = []
      refine a_lst0 (x_lstN (by decide) fun wd hwd => ?_)
      have hwd0 := R.gr.free hwd
      have now : od ≠ wd := ne_of_none hvo hwd
      have nfw : fd ≠ wd := ne_of_none R.fd hwd
      have nrw : rd ≠ wd := ne_of_none hvr hwd
      refine f_range ⟨_, rfl, k_forR (n := (r : Int)) rfl (by omega) (by omega) (fun i σ' Hc => ∃ os' Z4 e8 e9, σ' = [some v0, some (.int (r : Int)), some (.bl false), some (.ref od), some (.ref fd), some (.ref rd), some vp, some (.ref wd), e8, e9] ∧ AOH Z H N r od fd rd os' rs Z4 Hc ∧ os'[rs.length]? = some ps ∧ Same Z3 Z4 ∧ Z4 wd = none ∧
          Hc wd = some (.lst (vN ((List.range i).map fun k => pl os' (N.onw ps k)))) ∧ ∀ k, k < i → N.onw ps k ∈ os')
        ⟨os, Z3, _, _, rfl, ⟨R.gr.alloc hwd, R.zo, R.zf, R.zr, R.sub, ⟨vo, by rw [upd_ne now]; exact hvo, pvo⟩, by rw [upd_ne nfw]; exact R.fd, ⟨vr, by rw [upd_ne nrw]; exact hvr, pvr⟩⟩, hps, Same.refl _, R.gr.zh.free hwd, upd_same, fun k hk => absurd hk (Nat.not_lt_zero _)⟩ ?_ ?_⟩
      · rintro i σ' Hc' hi ⟨os', Z4, e8, e9, rfl, R4, hps4, s34, zw, hw, hmem⟩
        have hir : i < r := by omega
        walk_at "nf"
        -- other = onward(network, places, k)
        refine ⟨_, rfl, _, rfl, _, rfl, Z4, v0, vp, N, ps, i, rfl, R4.gr.zh, Mono.mono R4.gr.z hN, Mono.mono s34 pvp, ok, cps.2, fun v Z5 H5 g5 hv => ?_⟩
        refine ⟨_, rfl, false, rfl, ifN rfl ?_⟩
        obtain ⟨b, rfl, hb⟩ := isT_N.mp hv
        have hbv : ∀ {H6 : Hp}, Same Z5 H6 → H6 b = some (.tup ((kT (N.onw ps i)).map kV)) := fun s6 => by rw [kT_v]; exact s6 _ _ hb
        have fd5 := g5.keepH R4.fd
        have w5 := g5.keepH hw
        have zw5 := g5.keepZ zw hw
        obtain ⟨vo4, hvo4, pvo4⟩ := R4.od
        obtain ⟨vr4, hvr4, pvr4⟩ := R4.rd
        have zo5 := g5.keepZ R4.zo hvo4
        have zf5 := g5.keepZ R4.zf R4.fd
        have zr5 := g5.keepZ R4.zr hvr4
        have od5 := g5.keepH hvo4
        have rd5 := g5.keepH hvr4
        have hval := placeF_val (f := kT) kT_inj 0 os' (N.onw ps i)
        have few4 := R4.sub.few
        have nfo : fd ≠ od := ne_of R4.fd hvo4 (fun z => nomatch z)
        -- row.append(found[other])
        have fin : ∀ os2 H6, AOH Z H N r od fd rd os2 rs Z5 H6 → os2[rs.length]? = some ps → (∀ k, k < i + 1 → N.onw ps k ∈ os2) → H6 wd = some (.lst (vN ((List.range i).map fun k => pl os2 (N.onw ps k)))) →
            tDrop (tBM K "list" rAppend (tVar 7) (tCons (tDGet (tVar 4) (tVar 9)) tNil)) { nx := fun σ' Hc => ∃ os' Z4 e8 e9, σ' = [some v0, some (.int (r : Int)), some (.bl false), some (.ref od), some (.ref fd), some (.ref rd), some vp, some (.ref wd), e8, e9] ∧ AOH Z H N r od fd rd os' rs Z4 Hc ∧ os'[rs.length]? = some ps ∧ Same Z3 Z4 ∧ Z4 wd = none ∧ Hc wd = some (.lst (vN ((List.range (i + 1)).map fun k => pl os' (N.onw ps k)))) ∧ ∀ k, k < i + 1 → N.onw ps k ∈ os', rt := Q } [some v0, some (.int (r : Int)), some (.bl false), some (.ref od), some (.ref fd), some (.ref rd), some vp, some (.ref wd), some (.int (i : Int)), some (.ref b)] H6 := by
          intro os2 H6 R6 hp6 hm6 hw6
          have hval := placeF_val (f := kT) kT_inj 0 os2 (N.onw ps i)
          rw [if_pos (hm6 i (Nat.lt_succ_self _)), Nat.zero_add] at hval
          obtain ⟨vo6, hvo6, pvo6⟩ := R6.od
          obtain ⟨vr6, hvr6, pvr6⟩ := R6.rd
          refine ⟨_, rfl, .inl ⟨rfl, _, SqL.of hw6⟩, _, rfl, _, rfl, fd, _, rfl, hval ▸ DGet.t (k := kT (N.onw ps i)) R6.fd (hbv R6.gr.zh), wd, _, _, rfl, rfl, hw6, sz6' (by rw [List.length_map, List.length_map, List.length_range]; omega), ?_⟩
          refine ⟨os2, Z5, _, _, rfl, ⟨R6.gr.mut (.inl hwd0) zw5 hw6, R6.zo, R6.zf, R6.zr, R6.sub, ⟨vo6, by rw [upd_ne now]; exact hvo6, pvo6⟩, by rw [upd_ne nfw]; exact R6.fd, ⟨vr6, by rw [upd_ne nrw]; exact hvr6, pvr6⟩⟩, hp6, s34.trans g5.z, zw5, ?_, hm6⟩
          rw [upd_same, List.range_succ, List.map_append]
          simp [vN, pl]
        refine ⟨_, rfl, _, rfl, fd, _, rfl, DGet.t (k := kT (N.onw ps i)) fd5 (hbv g5.zh), _, rfl, ?_⟩
        by_cases hm : N.onw ps i ∈ os'
        · rw [if_pos hm] at hval
          refine ifN (by rw [hval]; rfl) (fin os' H5 ⟨R4.gr.trans g5, zo5, zf5, zr5, R4.sub, ⟨vo4, od5, Paired.mapP pvo4 fun _ _ q => Mono.mono g5.z q⟩, fd5, ⟨vr4, rd5, Paired.mapP pvr4 fun _ _ q => Mono.mono g5.z q⟩⟩ hps4 (fun k hk => ?_) w5)
          by_cases c : k = i
          · rw [c]; exact hm
          · exact hmem k (by omega)
        · rw [if_neg hm] at hval
          refine ifY (by rw [hval]; rfl) ?_
          have nrf : fd ≠ rd := nfr
          have s7 : SubC N r (os' ++ [N.onw ps i]) rs := R4.sub.grow hm ⟨srt_srt _, fun p hp => ok.onw_lt cps.2 hp⟩
          have few7 := s7.few
          rw [List.length_append] at few7
          -- found[other] = len(order)
          refine ⟨_, rfl, x_lenm od5 (Paired.length pvo4) ⟨_, rfl, _, rfl, fd, _, rfl, DPut.t (k := kT (N.onw ps i)) fd5 (hbv g5.zh) (sz6' (by rw [placeF_len]; omega)), ?_⟩⟩
          rw [putK_new _ hval]
          have e1 : placeF kT 0 os' ++ [(kT (N.onw ps i), V.int ((os'.length : Nat) : Int))] = placeF kT 0 (os' ++ [N.onw ps i]) := by rw [placeF_snoc, Nat.zero_add]
          rw [e1]
          have g6 := (R4.gr.trans g5).mut (o := .dT (placeF kT 0 (os' ++ [N.onw ps i]))) (.inl hfd0) zf5 fd5
          -- order.append(other)
          have od6 : (upd H5 fd (.dT (placeF kT 0 (os' ++ [N.onw ps i])))) od = some (.lst vo4) := by rw [upd_ne nof]; exact od5
          refine ⟨_, rfl, .inl ⟨rfl, _, SqL.of od6⟩, _, rfl, od, _, _, rfl, rfl, od6, sz6' (by rw [Paired.length pvo4]; omega), ?_⟩
          have g7 := g6.mut (o := .lst (vo4 ++ [V.ref b])) (.inl hod0) zo5 od6
          have nor' : rd ≠ od := nor.symm
          refine fin (os' ++ [N.onw ps i]) _ ⟨g7, zo5, zf5, zr5, s7, ⟨_, upd_same, Paired.snoc (Paired.mapP pvo4 fun _ _ q => Mono.mono g5.z q) hv⟩, by rw [upd_ne nfo]; exact upd_same, ⟨vr4, by rw [upd_ne nor', upd_ne nrf.symm]; exact rd5, Paired.mapP pvr4 fun _ _ q => Mono.mono g5.z q⟩⟩ ?_ (fun k hk => ?_) ?_
          · rw [List.getElem?_append_left (List.getElem?_eq_some_iff.mp hps4).1]; exact hps4
          · by_cases c : k = i
            · rw [c]; exact List.mem_append_right _ (List.mem_singleton.mpr rfl)
            · exact List.mem_append_left _ (hmem k (by omega))
          · rw [upd_ne now.symm, upd_ne nfw.symm, w5]
            refine congrArg (fun l => some (HO.lst (vN l))) (List.map_congr_left fun k hk => ?_)
            exact (pl_app (hmem k (List.mem_range.mp hk))).symm
      · rintro σ' Hc' ⟨os', Z4, e8, e9, rfl, R4, hps4, s34, zw, hw, hmem⟩
        -- rows.append(row)
        obtain ⟨vr4, hvr4, pvr4⟩ := R4.rd
        obtain ⟨vo4, hvo4, pvo4⟩ := R4.od
        walk_at "nf"
        have few4 := R4.sub.few
        have le4 := R4.sub.le
        refine ⟨_, rfl, .inl ⟨rfl, _, SqL.of hvr4⟩, _, rfl, rd, _, _, rfl, rfl, hvr4, sz6' (by rw [Paired.length pvr4]; omega), ?_⟩
        have gz := R4.gr.freeze hwd0 zw hw
        have sz := same_upd (Z := Z4) (p := wd) (o := .lst (vN ((List.range (r : Int).toNat).map fun k => pl os' (N.onw ps k)))) zw
        have gm := gz.mut (o := .lst (vr4 ++ [V.ref wd])) (.inl hrd0) (by rw [upd_ne nrw]; exact R4.zr) hvr4
        refine ⟨8192 - (rs.length + 1), by omega, os', _, _, _, _, _, _, rfl, ⟨gm, by rw [upd_ne now]; exact R4.zo, by rw [upd_ne nfw]; exact R4.zf, by rw [upd_ne nrw]; exact R4.zr, R4.sub.push hps4 hmem, ⟨vo4, by rw [upd_ne nor]; exact hvo4, Paired.mapP pvo4 fun _ _ q => Mono.mono sz q⟩, by rw [upd_ne nfr]; exact R4.fd, ⟨_, upd_same, Paired.snoc (Paired.mapP pvr4 fun _ _ q => Mono.mono sz q) (isL_vN upd_same)⟩⟩, by rw [List.length_append]; rfl⟩
    · -- the end
      refine ifN (by rw [lt_dec]; exact decide_eq_false hlt) ?_
      have e : rs.length = os.length := by omega
      have gz1 := R.gr.freeze hrd0 R.zr hvr
      have s1 := same_upd (Z := Z3) (p := rd) (o := .lst vr) R.zr
      have gz2 := gz1.freeze hod0 (by rw [upd_ne nor]; exact R.zo) hvo
      have s2 := same_upd (Z := upd Z3 rd (.lst vr)) (p := od) (o := .lst vo) (by rw [upd_ne nor]; exact R.zo)
      generalize hZ5 : upd (upd Z3 rd (.lst vr)) od (.lst vo) = Z5 at gz2 s2
      have hro : isL (isL isN) Z5 (.ref rd) rs := ⟨rd, vr, rfl, by rw [← hZ5, upd_ne nor.symm]; exact upd_same, Paired.mapP pvr fun _ _ q => Mono.mono (s1.trans s2) q⟩
      have hoo : isL (isT isN) Z5 (.ref od) os := ⟨od, vo, rfl, by rw [← hZ5]; exact upd_same, Paired.mapP pvo fun _ _ q => Mono.mono (s1.trans s2) q⟩
      have hN5 := Mono.mono gz2.z hN
      refine a_new2 ⟨_, rfl, c_list ⟨_, rfl, k_mapL (K := K) (p := isT isN) (q := isB) N.acc hoo gz2.zh (by omega) (by decide) (fun i ps wp Z6 H6 R6 hps pps g6 hR => ?_) (fun va Z6 H6 g6 hva => ?_)⟩⟩
      · have cps := R.sub.canon ps (List.mem_of_getElem? hps)
        have hl : ps.length ≤ 1000 := by rw [cps.1]; have := srt_len ps; omega
        exact ⟨_, rfl, _, rfl, Z6, v0, wp, N, ps, rfl, g6.zh, Mono.mono g6.z hN5, pps, hl, fun Z7 H7 g7 => hR _ Z7 H7 g7 rfl⟩
      · refine x_new2 g6.zh fun x dx Z7 H7 g7 hx => ?_
        have s57 := g6.z.trans g7.z
        refine ⟨Z7, .ref x, ⟨rs, os.map N.acc⟩, r, rfl, g7.zh, ⟨x, dx, _, _, rfl, hx, Mono.mono s57 hro, Mono.mono g7.z hva⟩, R.sub.ok e, by show rs.length ≤ 10000; omega, by omega, fun v Z8 H8 B g8 hB okB leB hasB => ?_⟩
        exact kk v Z8 H8 B (((gz2.trans g6).trans g7).trans g8) hB okB (by have : B.rows.length ≤ rs.length := leB; omega) fun u hu' => by rw [hasB u hu', R.sub.has e hu']
end
end K87

set_option autoImplicit true
set_option Elab.async false
set_option linter.all false
set_option maxRecDepth 100000
set_option maxHeartbeats 4000000
set_option pp.deepTerms.threshold 6
/-! K87D10: is_alphabet, is_word, codes, matches, _automaton. -/
namespace K87
open PySem L2 PySem.Spec PyProof.Rows
section
local macro_rules | `(tactic| walk_at "nf") => `(tactic| try dsimp only [tSeq, tAsg, gName, tRet, tRetN, tDrop, tNext, tIfS, tTest, tB, tOp, tUn, tNil, tCons, tCB, tC, tAnd, tOr, tNot, tAndV, tOrV, tNotV, tIf, sDPut, sFld, sFldAug, tM0, tM1, tBM, tBM0, tMeth, tCall, sGPut, tGGet, tGNin, tDGet, tDNotIn, tDIn, tFld])
local macro_rules | `(tactic| walk_at "st") => `(tactic| try dsimp only [wipe, List.set_cons_zero, List.set_cons_succ])
variable {P : Program} {w : World} {K : PySem.W.Frag} {mg : Str → Option Value} {base : Heap}
/-- the text that a list of letters' numbers stands for -/
def strOf (a : Str) (u : List Nat) : Str := ⟨(u.map fun k => (cs a).getD k 0).toArray⟩
theorem strOf_l (a : Str) (u : List Nat) : (strOf a u).cps.toList = u.map fun k => (cs a).getD k 0 := rfl
theorem strOf_len (a : Str) (u : List Nat) : (strOf a u).length = u.length := by
  show (List.toArray _).size = _
  simp
theorem strOf_llen (a : Str) (u : List Nat) : (strOf a u).cps.toList.length = u.length := by rw [strOf_l, List.length_map]
theorem al_get {a : Str} (ha : a ∈ AL) {k : Nat} (hk : k < 2) : (cs a).getD k 0 ∈ cs a ∧ (cs a).idxOf ((cs a).getD k 0) = k := by
  have h := al_two a ha
  have hl : k < (cs a).length := by rw [h.1]; exact hk
  exact ⟨getD_mem hl, idx_at h.2.2 (some_getD hl)⟩
def isW (a : Str) : Rep (List Nat) := fun _ v u => v = .str (strOf a u)
instance {a : Str} : Mono (isW a) := ⟨fun _ h => h⟩
theorem x_isi {H : Hp} {Q : VK} {x c : V} {t u : Value} {b : Bool} (h1 : ClsV c u) (h2 : TyX K H x t) (h3 : PySem.W.kitOne K t u = some b) (q : Q (.bl b) H) : rIsi K [x, c] H Q := ⟨x, c, t, u, b, rfl, h1, h2, h3, q⟩
def spIsAl : Sp := fun vs H Q _ => ∃ (Z : Hp) (a : Str), vs = [.str a] ∧ Same Z H ∧ a ∈ AL ∧ ∀ Z' H', Gr Z H Z' H' → Q (.bl true) H'
abbrev N_is_alphabet : List Str := ["thing", "letter"]
theorem sc_is_alphabet : FnScope N_is_alphabet ["thing"] (defScope (top 31)) := ⟨rfl, rfl, rfl, by decide +kernel, rfl, by decide +kernel, by decide +kernel⟩
theorem ok_is_alphabet (T : Txt K mg) : FnOk P w K mg base CX0 1 T.d_is_alphabet.f T.d_is_alphabet.fd ["thing"] spIsAl := by
  refine T.d_is_alphabet.fn.ok sc_is_alphabet (fun vs H Q E h => ?_) (fun cdv A outer s H vs Q E hr h => ?_)
  · obtain ⟨Z, a, rfl, _⟩ := h
    rfl
  · obtain ⟨Z, a, rfl, sub, ha, kk⟩ := h
    refine ⟨_, pss_cons (ps_if (PW.pt (pw_or (pt_not (pt_val (pe_callB (call_isiK2 K rfl) (by rfl) T.b_isinstance (by decide +kernel) (pa_cons (pv 0) (pa_cons (pe_bltn (v := .ty "str") (by rfl) T.b_str (by decide +kernel) rfl) pa_nil))))) (pw_or1 (pt_not (pt_chain op_le op_le (pe_int) (pe_callB call_len_str (by rfl) T.b_len (by decide +kernel) (pa_cons (pv 0) pa_nil)) (pe_glob (v := .int 5) (by rfl) T.k_MOST_LETTERS ⟨_, rfl⟩))))))
  (pss_one (ps_ret (pe_bl)))
  (pss_nil))
  (pss_one (ps_ret (pe_callB (cr_allK K rfl rfl) (by rfl) T.b_all (by decide +kernel) (pa_cons (pe_lc (own := [("letter", 1)]) rfl sc_is_alphabet.nd (pi_str (pv 0)) (blkOk_by (N := N_is_alphabet) (sc := defScope (top 31)) (by decide +kernel)) (fun _ _ _ _ _ => pg_name (i := 1) sc_is_alphabet.nd rfl (.inl rfl) (.inr rfl)) (fun _ _ _ _ _ => pts_nil) (fun _ _ _ _ _ => pe_and (pe_cmpR op_in_sign (pv 1) (pe_glob (v := .str "abcdefghijklmnopqrstuvwxyz") (by rfl) T.k_LETTERS ⟨_, rfl⟩) rfl) (pe_one (pe_cmpR op_eq (pe_m1 PySem.F.slot_str_count PySem.F.type_str_count mt_count (pv 0) (pv 1)) (pe_int) (nomark _))))) pa_nil)))), ?_⟩
    have h2 := al_two a ha
    walk_at "nf"
    refine ⟨_, rfl, x_isi (.ty "str") (.base (.str a)) rfl ⟨true, rfl, ifN rfl ?_⟩⟩
    refine ⟨_, rfl, a, rfl, by rw [h2.2.1]; decide, ?_⟩
    rw [h2.2.1]
    refine ⟨1, 2, rfl, rfl, true, rfl, ifY rfl ⟨2, 5, rfl, rfl, true, rfl, ifN rfl ?_⟩⟩
    have hl : (cs a).length ≤ 1000000 := by rw [h2.1]; decide
    refine c_str ⟨_, rfl, k_mapS (z := a) (q := isB) (fun _ => true) rfl sub hl (by decide) (fun i c Z1 H1 R hc g1 hR => ?_) (fun v Z' H' g' hv => ?_)⟩
    · have mc : c ∈ cs a := List.mem_of_getElem? hc
      refine ⟨_, rfl, c, _, rfl, rfl, _, rfl, ifY (decide_eq_true (al_lets a ha c mc)) ⟨_, rfl, ⟨a, rfl⟩, _, rfl, a, ⟨#[c]⟩, rfl, rfl, ?_⟩⟩
      rw [al_cnt a ha c mc]
      exact ⟨rfl, hR _ Z1 H1 (Grow.refl g1.zh) rfl⟩
    · refine x_all hv g'.zh ?_
      have : (a.cps.toList.map fun _ => true).all id = true := by
        rw [List.all_eq_true]
        intro b hb
        obtain ⟨_, _, rfl⟩ := List.mem_map.mp hb
        rfl
      rw [this]
      exact kk Z' H' g'
def spIsW : Sp := fun vs H Q _ => ∃ (Z : Hp) (a : Str) (u : List Nat), vs = [.str a, .str (strOf a u)] ∧ Same Z H ∧ a ∈ AL ∧ (∀ k ∈ u, k < 2) ∧ u.length ≤ 1000 ∧ ∀ Z' H', Gr Z H Z' H' → Q (.bl true) H'
abbrev N_is_word : List Str := ["alphabet", "thing", "letter"]
theorem sc_is_word : FnScope N_is_word ["alphabet", "thing"] (defScope (top 32)) := ⟨rfl, rfl, rfl, by decide +kernel, rfl, by decide +kernel, by decide +kernel⟩
theorem ok_is_word (T : Txt K mg) : FnOk P w K mg base CX0 1 T.d_is_word.f T.d_is_word.fd ["alphabet", "thing"] spIsW := by
  refine T.d_is_word.fn.ok sc_is_word (fun vs H Q E h => ?_) (fun cdv A outer s H vs Q E hr h => ?_)
  · obtain ⟨Z, a, u, rfl, _⟩ := h
    rfl
  · obtain ⟨Z, a, u, rfl, sub, ha, hu2, hul, kk⟩ := h
    refine ⟨_, pss_one (ps_ret (pe_and (pe_callB (call_isiK2 K rfl) (by rfl) T.b_isinstance (by decide +kernel) (pa_cons (pv 1) (pa_cons (pe_bltn (v := .ty "str") (by rfl) T.b_str (by decide +kernel) rfl) pa_nil))) (pe_one (pe_callB (cr_allK K rfl rfl) (by rfl) T.b_all (by decide +kernel) (pa_cons (pe_lc (own := [("letter", 2)]) rfl sc_is_word.nd (pi_str (pv 1)) (blkOk_by (N := N_is_word) (sc := defScope (top 32)) (by decide +kernel)) (fun _ _ _ _ _ => pg_name (i := 2) sc_is_word.nd rfl (.inl rfl) (.inr rfl)) (fun _ _ _ _ _ => pts_nil) (fun _ _ _ _ _ => pe_cmpR op_in_sign (pv 2) (pv 0) rfl)) pa_nil))))), ?_⟩
    walk_at "nf"
    refine ⟨_, rfl, x_isi (.ty "str") (.base (.str _)) rfl ⟨true, rfl, ifY rfl ?_⟩⟩
    refine c_str ⟨_, rfl, k_mapS (z := strOf a u) (q := isB) (fun _ => true) rfl sub (by rw [strOf_llen]; omega) (by decide) (fun i c Z1 H1 R hc g1 hR => ?_) (fun v Z' H' g' hv => ?_)⟩
    · have mc : c ∈ cs a := by
        rw [strOf_l] at hc
        obtain ⟨k, hk, rfl⟩ := List.mem_map.mp (List.mem_of_getElem? hc)
        exact (al_get ha (hu2 k hk)).1
      exact ⟨_, rfl, _, rfl, c, a, rfl, rfl, hR _ Z1 H1 (Grow.refl g1.zh) (congrArg V.bl (decide_eq_true mc))⟩
    · refine x_all hv g'.zh ?_
      have : ((strOf a u).cps.toList.map fun _ => true).all id = true := by
        rw [List.all_eq_true]
        intro b hb
        obtain ⟨_, _, rfl⟩ := List.mem_map.mp hb
        rfl
      rw [this]
      exact kk Z' H' g'
def spCodes : Sp := fun vs H Q _ => ∃ (Z : Hp) (a : Str) (u : List Nat), vs = [.str a, .str (strOf a u)] ∧ Same Z H ∧ a ∈ AL ∧ (∀ k ∈ u, k < 2) ∧ u.length ≤ 1000 ∧ ∀ v Z' H', Gr Z H Z' H' → isL isN Z' v u → Q v H'
abbrev N_codes : List Str := ["alphabet", "word", "letter"]
theorem sc_codes : FnScope N_codes ["alphabet", "word"] (defScope (top 33)) := ⟨rfl, rfl, rfl, by decide +kernel, rfl, by decide +kernel, by decide +kernel⟩
theorem ok_codes (T : Txt K mg) : FnOk P w K mg base CX0 1 T.d_codes.f T.d_codes.fd ["alphabet", "word"] spCodes := by
  refine T.d_codes.fn.ok sc_codes (fun vs H Q E h => ?_) (fun cdv A outer s H vs Q E hr h => ?_)
  · obtain ⟨Z, a, u, rfl, _⟩ := h
    rfl
  · obtain ⟨Z, a, u, rfl, sub, ha, hu2, hul, kk⟩ := h
    refine ⟨_, pss_one (ps_ret (pe_lc (own := [("letter", 2)]) rfl sc_codes.nd (pi_str (pv 1)) (blkOk_by (N := N_codes) (sc := defScope (top 33)) (by decide +kernel)) (fun _ _ _ _ _ => pg_name (i := 2) sc_codes.nd rfl (.inl rfl) (.inr rfl)) (fun _ _ _ _ _ => pts_nil) (fun _ _ _ _ _ => pe_m1 PySem.F.slot_str_index PySem.F.type_str_index mt_sindex (pv 0) (pv 2)))), ?_⟩
    walk_at "nf"
    refine c_str ⟨_, rfl, k_mapS (z := strOf a u) (q := isN) (fun c => (cs a).idxOf c) rfl sub (by rw [strOf_llen]; omega) (by decide) (fun i c Z1 H1 R hc g1 hR => ?_) (fun v Z' H' g' hv => ?_)⟩
    · have mc : c ∈ cs a := by
        rw [strOf_l] at hc
        obtain ⟨k, hk, rfl⟩ := List.mem_map.mp (List.mem_of_getElem? hc)
        exact (al_get ha (hu2 k hk)).1
      exact ⟨_, rfl, ⟨a, rfl⟩, _, rfl, a, ⟨#[c]⟩, _, [], rfl, rfl, al_idx a ha c mc, hR _ Z1 H1 (Grow.refl g1.zh) rfl⟩
    · have e : (strOf a u).cps.toList.map (fun c => (cs a).idxOf c) = u := by
        rw [strOf_l, List.map_map]
        conv => rhs; rw [← List.map_id u]
        exact List.map_congr_left fun k hk => (al_get ha (hu2 k hk)).2
      rw [e] at hv
      exact kk v Z' H' g' hv
/-- a pattern: its alphabet, its network -/
def isPat (CP CN : Addr) (a : Str) : Rep Net := fun Z v N => ∃ x dx vt vn, v = .ref x ∧ Z x = some (.ins CP dx [("alphabet", .str a), ("text", vt), ("network", vn)]) ∧ isNet CN Z vn N
instance {CP CN : Addr} {a : Str} : Mono (isPat CP CN a) := ⟨fun s ⟨x, dx, vt, vn, e, h, r⟩ => ⟨x, dx, vt, vn, e, s _ _ h, Mono.mono s r⟩⟩
def spMatch (CP CN : Addr) : Sp := fun vs H Q _ => ∃ (Z : Hp) (v0 : V) (a : Str) (N : Net) (u : List Nat), vs = [v0, .str (strOf a u)] ∧ Same Z H ∧ isPat CP CN a Z v0 N ∧ N.Ok ∧ a ∈ AL ∧ (∀ k ∈ u, k < 2) ∧ u.length ≤ 1000 ∧
  ∀ Z' H', Gr Z H Z' H' → Q (.bl (N.desc u)) H'
abbrev N_matches : List Str := ["pattern", "word"]
theorem sc_matches : FnScope N_matches ["pattern", "word"] (defScope (top 36)) := ⟨rfl, rfl, rfl, by decide +kernel, rfl, by decide +kernel, by decide +kernel⟩
theorem ok_matches (T : Txt K mg) : FnOk P w K mg base CX0 3 T.d_matches.f T.d_matches.fd ["pattern", "word"] (spMatch T.c_Pattern.C T.c_Network.C) := by
  refine T.d_matches.fn.ok sc_matches (fun vs H Q E h => ?_) (fun cdv A outer s H vs Q E hr h => ?_)
  · obtain ⟨Z, v0, a, N, u, rfl, _⟩ := h
    rfl
  · obtain ⟨Z, v0, a, N, u, rfl, sub, hP, ok, ha, hu2, hul, kk⟩ := h
    refine ⟨_, pss_one (ps_ret (pe_call (ok_describes T) (hr.mono (by decide)) (by rfl) T.d_describes.mg T.d_describes.fn.kp T.d_describes.b .nil pass0 (pa_cons (pe_fldK K rfl (pv 0) rfl) (pa_cons (pe_call (ok_codes T) (hr.mono (by decide)) (by rfl) T.d_codes.mg T.d_codes.fn.kp T.d_codes.b .nil pass0 (pa_cons (pe_fldK K rfl (pv 0) rfl) (pa_cons (pv 1) pa_nil))) pa_nil)))), ?_⟩
    obtain ⟨x, dx, vt, vn, rfl, hx, hN⟩ := hP
    walk_at "nf"
    refine ⟨_, rfl, x, _, dx, _, vn, rfl, sub _ _ hx, T.c_Pattern.cl, T.n_Pattern_network, rfl, _, rfl, x, _, dx, _, _, rfl, sub _ _ hx, T.c_Pattern.cl, T.n_Pattern_alphabet, rfl, _, rfl, Z, a, u, rfl, sub, ha, hu2, hul, fun vc Z1 H1 g1 hc => ?_⟩
    exact ⟨Z1, vn, vc, N, u, rfl, g1.zh, Mono.mono g1.z hN, hc, ok, fun Z2 H2 g2 => kk Z2 H2 (g1.trans g2)⟩
def spAut (CP CN CA : Addr) : Sp := fun vs H Q _ => ∃ (Z : Hp) (v0 : V) (a : Str) (N : Net), vs = [v0] ∧ Same Z H ∧ isPat CP CN a Z v0 N ∧ N.Ok ∧ a ∈ AL ∧
  ∀ v Z' H' B, Gr Z H Z' H' → isAut CA Z' v B → B.Ok 2 → B.rows.length ≤ 10000 → (∀ u : List Nat, (∀ k ∈ u, k < 2) → B.has u = N.desc u) → Q v H'
abbrev N__automaton : List Str := ["pattern"]
theorem sc__automaton : FnScope N__automaton ["pattern"] (defScope (top 37)) := ⟨rfl, rfl, rfl, by decide +kernel, rfl, by decide +kernel, by decide +kernel⟩
theorem ok__automaton (T : Txt K mg) : FnOk P w K mg base CX0 5 T.d__automaton.f T.d__automaton.fd ["pattern"] (spAut T.c_Pattern.C T.c_Network.C T.c_Automaton.C) := by
  refine T.d__automaton.fn.ok sc__automaton (fun vs H Q E h => ?_) (fun cdv A outer s H vs Q E hr h => ?_)
  · obtain ⟨Z, v0, a, N, rfl, _⟩ := h
    rfl
  · obtain ⟨Z, v0, a, N, rfl, sub, hP, ok, ha, kk⟩ := h
    refine ⟨_, pss_one (ps_ret (pe_call (ok_automaton_of T) (hr.mono (by decide)) (by rfl) T.d_automaton_of.mg T.d_automaton_of.fn.kp T.d_automaton_of.b .nil pass0 (pa_cons (pe_fldK K rfl (pv 0) rfl) (pa_cons (pe_callB call_len_str (by rfl) T.b_len (by decide +kernel) (pa_cons (pe_fldK K rfl (pv 0) rfl) pa_nil)) (pa_cons (pe_bl) pa_nil))))), ?_⟩
    obtain ⟨x, dx, vt, vn, rfl, hx, hN⟩ := hP
    have h2 := (al_two a ha).2.1
    walk_at "nf"
    refine ⟨_, rfl, x, _, dx, _, vn, rfl, sub _ _ hx, T.c_Pattern.cl, T.n_Pattern_network, rfl, _, rfl, x, _, dx, _, _, rfl, sub _ _ hx, T.c_Pattern.cl, T.n_Pattern_alphabet, rfl, a, rfl, by rw [h2]; decide, ?_⟩
    rw [h2]
    exact ⟨Z, vn, N, 2, rfl, sub, hN, ok, by decide, kk⟩
end
end K87

set_option autoImplicit true
set_option Elab.async false
set_option linter.all false
set_option maxRecDepth 100000
set_option maxHeartbeats 4000000
set_option pp.deepTerms.threshold 6
/-! K87D11: machines. -/
namespace K87
open PySem L2 PySem.Spec PyProof.Rows
theorem pr_mapm {α β γ : Type} {F : α → β → Prop} {G : α → γ → Prop} {f : β → γ} : ∀ {vs : List α} {xs : List β}, Paired F vs xs → (∀ v x, x ∈ xs → F v x → G v (f x)) → Paired G vs (xs.map f)
  | _, _, .nil, _ => .nil
  | _, _, .cons r t, h => .cons (h _ _ List.mem_cons_self r) (pr_mapm t fun v x m q => h v x (List.mem_cons_of_mem _ m) q)
theorem isL_map {α β : Type} {p : Rep α} {q : Rep β} {Z : Hp} {v : V} {xs : List α} {f : α → β} (h : isL p Z v xs) (g : ∀ v x, x ∈ xs → p Z v x → q Z v (f x)) : isL q Z v (xs.map f) := by
  obtain ⟨a, vs, e, ha, pr⟩ := h
  exact ⟨a, vs, e, ha, pr_mapm pr g⟩
theorem isL_ty {α : Type} {p : Rep α} {K : PySem.W.Frag} {Z H : Hp} {v : V} {xs : List α} (h : isL p Z v xs) (s : Same Z H) : TyX K H v (.type "list") := by
  obtain ⟨a, vs, rfl, ha, _⟩ := h
  exact .base (.lst (s _ _ ha))
section
local macro_rules | `(tactic| walk_at "nf") => `(tactic| try dsimp only [tSeq, tAsg, gName, tRet, tRetN, tDrop, tNext, tIfS, tTest, tB, tOp, tUn, tNil, tCons, tCB, tC, tAnd, tOr, tNot, tAndV, tOrV, tNotV, tIf, sDPut, sFld, sFldAug, tM0, tM1, tBM, tBM0, tMeth, tCall, sGPut, tGGet, tGNin, tDGet, tDNotIn, tDIn, tFld, tChain])
local macro_rules | `(tactic| walk_at "st") => `(tactic| try dsimp only [wipe, List.set_cons_zero, List.set_cons_succ])
variable {P : Program} {w : World} {K : PySem.W.Frag} {mg : Str → Option Value} {base : Heap}
def spAreR : Sp := fun vs H Q _ => ∃ (Z : Hp) (v0 : V) (rows : List (List Nat)) (r : Nat), vs = [v0, .int (r : Int)] ∧ Same Z H ∧ isL (isL isN) Z v0 rows ∧ Rows rows r ∧ rows.length ≤ 40 ∧ Q (.bl true) H
abbrev N__are_rows : List Str := ["thing", "letters", "row", "state"]
theorem sc__are_rows : FnScope N__are_rows ["thing", "letters"] (defScope (top 46)) := ⟨rfl, rfl, rfl, by decide +kernel, rfl, by decide +kernel, by decide +kernel⟩
theorem ok__are_rows (T : Txt K mg) : FnOk P w K mg base CX0 1 T.d__are_rows.f T.d__are_rows.fd ["thing", "letters"] spAreR := by
  refine T.d__are_rows.fn.ok sc__are_rows (fun vs H Q E h => ?_) (fun cdv A outer s H vs Q E hr h => ?_)
  · obtain ⟨Z, v0, rows, r, rfl, _⟩ := h
    rfl
  · obtain ⟨Z, v0, rows, r, rfl, sub, hrows, R, h40, kk⟩ := h
    refine ⟨_, pss_cons (ps_if (PW.pt (pw_or (pt_not (pt_val (pe_callB (call_isiK2 K rfl) (by rfl) T.b_isinstance (by decide +kernel) (pa_cons (pv 0) (pa_cons (pe_bltn (v := .ty "list") (by rfl) T.b_list (by decide +kernel) rfl) pa_nil))))) (pw_or1 (pt_not (pt_chain op_le op_le (pe_int) (pe_callB (call_len_seqK K rfl) (by rfl) T.b_len (by decide +kernel) (pa_cons (pv 0) pa_nil)) (pe_glob (v := .int 40) (by rfl) T.k_MOST_STATES ⟨_, rfl⟩))))))
  (pss_one (ps_ret (pe_bl)))
  (pss_nil))
  (pss_cons (ps_for PassesOwn.never rfl (pi_listK K rfl (pv 0)) (pg_name (i := 2) sc__are_rows.nd rfl (.inl rfl) (.inl rfl))
  (pss_cons (ps_if (PW.pt (pw_or (pt_not (pt_val (pe_callB (call_isiK2 K rfl) (by rfl) T.b_isinstance (by decide +kernel) (pa_cons (pv 2) (pa_cons (pe_bltn (v := .ty "list") (by rfl) T.b_list (by decide +kernel) rfl) pa_nil))))) (pw_or1 (pt_cmpR op_ne (pe_callB (call_len_seqK K rfl) (by rfl) T.b_len (by decide +kernel) (pa_cons (pv 2) pa_nil)) (pv 1) (nomark _)))))
  (pss_one (ps_ret (pe_bl)))
  (pss_nil))
  (pss_one (ps_for PassesOwn.never rfl (pi_listK K rfl (pv 2)) (pg_name (i := 3) sc__are_rows.nd rfl (.inl rfl) (.inl rfl))
  (pss_one (ps_if (PW.pt (pw_or (pt_not (pt_val (pe_callB (call_isiK2 K rfl) (by rfl) T.b_isinstance (by decide +kernel) (pa_cons (pv 3) (pa_cons (pe_bltn (v := .ty "int") (by rfl) T.b_int (by decide +kernel) rfl) pa_nil))))) (pw_or (pt_val (pe_callB (call_isiK2 K rfl) (by rfl) T.b_isinstance (by decide +kernel) (pa_cons (pv 3) (pa_cons (pe_bltn (v := .ty "bool") (by rfl) T.b_bool (by decide +kernel) rfl) pa_nil)))) (pw_or1 (pt_not (pt_chain op_le op_lt (pe_int) (pv 3) (pe_callB (call_len_seqK K rfl) (by rfl) T.b_len (by decide +kernel) (pa_cons (pv 0) pa_nil))))))))
  (pss_one (ps_ret (pe_bl)))
  (pss_nil)))))))
  (pss_one (ps_ret (pe_bl)))), ?_⟩
    have pos := R.pos
    walk_at "nf"
    refine ⟨_, rfl, x_isi (.ty "list") (isL_ty hrows sub) rfl ⟨true, rfl, ifN rfl ?_⟩⟩
    walk_at "nf"
    refine ⟨_, rfl, x_len hrows sub rfl ⟨1, _, rfl, rfl, true, congrArg V.bl (decide_eq_true (by omega)), ifY rfl ⟨_, 40, rfl, rfl, true, congrArg V.bl (decide_eq_true (by omega)), ifN rfl ?_⟩⟩⟩
    refine f_list ⟨_, rfl, k_forL (K := K) (Z := Z) hrows (fun i σ Hc => ∃ e2 e3, σ = [some v0, some (.int (r : Int)), e2, e3] ∧ Hc = H) ⟨none, none, rfl, rfl⟩ (fun i σ Hc ⟨_, _, _, e⟩ => e ▸ sub) ?_ ?_⟩
    · rintro i row wr σ Hc hi pr ⟨e2, e3, rfl, rfl⟩
      have mrow := List.mem_of_getElem? hi
      walk_at "nf"
      refine ⟨_, rfl, x_isi (.ty "list") (isL_ty pr sub) rfl ⟨true, rfl, ifN rfl ?_⟩⟩
      refine ⟨_, rfl, x_len pr sub (R.len row mrow) ⟨_, rfl, rfl, false, ?_, ifN rfl ?_⟩⟩
      · simp
      refine f_list ⟨_, rfl, k_forL (K := K) (Z := Z) pr (fun j σ Hc' => ∃ e3, σ = [some v0, some (.int (r : Int)), some wr, e3] ∧ Hc' = Hc) ⟨e3, rfl, rfl⟩ (fun i σ Hc' ⟨_, _, e⟩ => e ▸ sub) ?_ ?_⟩
      · rintro j st wst σ Hc' hj pst ⟨e3, rfl, rfl⟩
        obtain rfl : wst = .int (st : Int) := pst
        have hlt := R.lt row mrow st (List.mem_of_getElem? hj)
        walk_at "nf"
        refine ⟨_, rfl, x_isi (.ty "int") (.base (.int _)) rfl ⟨true, rfl, ifN rfl ?_⟩⟩
        refine ⟨_, rfl, x_isi (.ty "bool") (.base (.int _)) rfl ⟨false, rfl, ifN rfl ?_⟩⟩
        refine ⟨_, rfl, 0, _, rfl, rfl, true, congrArg V.bl (decide_eq_true (by omega)), ifY rfl ⟨_, rfl, x_len hrows sub rfl ⟨_, _, rfl, rfl, true, congrArg V.bl (decide_eq_true (by omega)), ifN rfl ?_⟩⟩⟩
        exact ⟨_, rfl, rfl⟩
      · rintro σ Hc' ⟨e3, rfl, rfl⟩
        exact ⟨_, _, rfl, rfl⟩
    · rintro σ Hc ⟨e2, e3, rfl, rfl⟩
      exact kk
def spIsTab : Sp := fun vs H Q _ => ∃ (Z : Hp) (v0 : V) (b : Str) (tb : List (List (List Nat))) (l m : Nat), vs = [v0, .int (l : Int), .int (m : Int), .int ((2 : Nat) : Int), .str b] ∧ Same Z H ∧ b ∈ AL ∧ isL (isL (isW b)) Z v0 tb ∧ tb.length = l ∧ (∀ row ∈ tb, row.length = m) ∧ (∀ row ∈ tb, ∀ c ∈ row, c.length = 2 ∧ ∀ k ∈ c, k < 2) ∧
  ∀ Z' H', Gr Z H Z' H' → Q (.bl true) H'
abbrev N__is_table : List Str := ["thing", "left", "right", "letters", "writes", "row", "told"]
theorem sc__is_table : FnScope N__is_table ["thing", "left", "right", "letters", "writes"] (defScope (top 47)) := ⟨rfl, rfl, rfl, by decide +kernel, rfl, by decide +kernel, by decide +kernel⟩
theorem ok__is_table (T : Txt K mg) : FnOk P w K mg base CX0 2 T.d__is_table.f T.d__is_table.fd ["thing", "left", "right", "letters", "writes"] spIsTab := by
  refine T.d__is_table.fn.ok sc__is_table (fun vs H Q E h => ?_) (fun cdv A outer s H vs Q E hr h => ?_)
  · obtain ⟨Z, v0, b, tb, l, m, rfl, _⟩ := h
    rfl
  · obtain ⟨Z, v0, b, tb, l, m, rfl, sub, hb, htb, hl, hm, hc, kk⟩ := h
    refine ⟨_, pss_cons (ps_if (PW.pt (pw_or (pt_not (pt_val (pe_callB (call_isiK2 K rfl) (by rfl) T.b_isinstance (by decide +kernel) (pa_cons (pv 0) (pa_cons (pe_bltn (v := .ty "list") (by rfl) T.b_list (by decide +kernel) rfl) pa_nil))))) (pw_or1 (pt_cmpR op_ne (pe_callB (call_len_seqK K rfl) (by rfl) T.b_len (by decide +kernel) (pa_cons (pv 0) pa_nil)) (pv 1) (nomark _)))))
  (pss_one (ps_ret (pe_bl)))
  (pss_nil))
  (pss_cons (ps_for PassesOwn.never rfl (pi_listK K rfl (pv 0)) (pg_name (i := 5) sc__is_table.nd rfl (.inl rfl) (.inl rfl))
  (pss_cons (ps_if (PW.pt (pw_or (pt_not (pt_val (pe_callB (call_isiK2 K rfl) (by rfl) T.b_isinstance (by decide +kernel) (pa_cons (pv 5) (pa_cons (pe_bltn (v := .ty "list") (by rfl) T.b_list (by decide +kernel) rfl) pa_nil))))) (pw_or1 (pt_cmpR op_ne (pe_callB (call_len_seqK K rfl) (by rfl) T.b_len (by decide +kernel) (pa_cons (pv 5) pa_nil)) (pv 2) (nomark _)))))
  (pss_one (ps_ret (pe_bl)))
  (pss_nil))
  (pss_one (ps_for PassesOwn.never rfl (pi_listK K rfl (pv 5)) (pg_name (i := 6) sc__is_table.nd rfl (.inl rfl) (.inl rfl))
  (pss_one (ps_if (PW.pt (pw_or (pt_not (pt_val (pe_call (ok_is_word T) (hr.mono (by decide)) (by rfl) T.d_is_word.mg T.d_is_word.fn.kp T.d_is_word.b .nil pass0 (pa_cons (pv 4) (pa_cons (pv 6) pa_nil))))) (pw_or1 (pt_cmpR op_ne (pe_callB call_len_str (by rfl) T.b_len (by decide +kernel) (pa_cons (pv 6) pa_nil)) (pv 3) (nomark _)))))
  (pss_one (ps_ret (pe_bl)))
  (pss_nil)))))))
  (pss_one (ps_ret (pe_bl)))), ?_⟩
    walk_at "nf"
    refine ⟨_, rfl, x_isi (.ty "list") (isL_ty htb sub) rfl ⟨true, rfl, ifN rfl ?_⟩⟩
    refine ⟨_, rfl, x_len htb sub hl ⟨_, rfl, rfl, false, ?_, ifN rfl ?_⟩⟩
    · simp
    refine f_list ⟨_, rfl, k_forL (K := K) (Z := Z) htb (fun i σ Hc => ∃ e5 e6 Z1, σ = [some v0, some (.int (l : Int)), some (.int (m : Int)), some (.int ((2 : Nat) : Int)), some (.str b), e5, e6] ∧ Gr Z H Z1 Hc) ⟨none, none, Z, rfl, Grow.refl sub⟩ (fun i σ Hc ⟨_, _, _, _, g⟩ => g.z.trans g.zh) ?_ ?_⟩
    · rintro i row wr σ Hc hi pr ⟨e5, e6, Z1, rfl, g⟩
      have mrow := List.mem_of_getElem? hi
      have s1 := g.z.trans g.zh
      walk_at "nf"
      refine ⟨_, rfl, x_isi (.ty "list") (isL_ty pr s1) rfl ⟨true, rfl, ifN rfl ?_⟩⟩
      refine ⟨_, rfl, x_len pr s1 (hm row mrow) ⟨_, rfl, rfl, false, ?_, ifN rfl ?_⟩⟩
      · simp
      refine f_list ⟨_, rfl, k_forL (K := K) (Z := Z) pr (fun j σ Hc' => ∃ e6 Z2, σ = [some v0, some (.int (l : Int)), some (.int (m : Int)), some (.int ((2 : Nat) : Int)), some (.str b), some wr, e6] ∧ Gr Z H Z2 Hc') ⟨e6, Z1, rfl, g⟩ (fun i σ Hc' ⟨_, _, _, g⟩ => g.z.trans g.zh) ?_ ?_⟩
      · rintro j c wc σ Hc' hj pc ⟨e6, Z2, rfl, g⟩
        obtain rfl : wc = .str (strOf b c) := pc
        have hcell := hc row mrow c (List.mem_of_getElem? hj)
        walk_at "nf"
        refine ⟨_, rfl, _, rfl, Z2, b, c, rfl, g.zh, hb, hcell.2, by omega, fun Z3 H3 g3 => ⟨true, rfl, ifN rfl ⟨_, rfl, strOf b c, rfl, by rw [strOf_len, hcell.1]; decide, ?_⟩⟩⟩
        rw [strOf_len, hcell.1]
        exact ⟨_, rfl, rfl, false, rfl, ifN rfl ⟨_, Z3, rfl, g.trans g3⟩⟩
      · rintro σ Hc' ⟨e6, Z2, rfl, g⟩
        exact ⟨_, _, Z2, rfl, g⟩
    · rintro σ Hc ⟨e5, e6, Z1, rfl, g⟩
      exact kk Z1 Hc g
/-- a machine -/
def isMach (C : Addr) (a b : Str) : Rep Mach := fun Z v M => ∃ x dx vl vr vt, v = .ref x ∧ Z x = some (.ins C dx [("reads", .str a), ("writes", .str b), ("left", vl), ("right", vr), ("table", vt)]) ∧ isL (isL isN) Z vl M.left ∧ isL (isL isN) Z vr M.right ∧ isL (isL (isW b)) Z vt M.table
instance {C : Addr} {a b : Str} : Mono (isMach C a b) := ⟨fun s ⟨x, dx, vl, vr, vt, e, h, r1, r2, r3⟩ => ⟨x, dx, vl, vr, vt, e, s _ _ h, Mono.mono s r1, Mono.mono s r2, Mono.mono s r3⟩⟩
structure MOk (M : Mach) : Prop where
  ok : M.Ok 2 2
  l40 : M.left.length ≤ 3
  r40 : M.right.length ≤ 3
theorem Grow.fresh {M : Addr → Prop} {Z0 H0 Z H Z' H' : Hp} (g : Gr Z0 H0 Z H) (g' : Grow M Z H Z' H') (hM : ∀ a, M a → H0 a = none) : Gr Z0 H0 Z' H' :=
  ⟨g.z.trans g'.z, fun a o _ e => g'.h a o (fun m => by rw [hM a m] at e; cases e) (g.keepH e), fun a o e => g'.dom a o (g.keepH e), g'.zh, fun a o e => by
    rcases g'.new a o e with e | e
    · exact g.new a o e
    · exact .inr (g.free e)⟩
def spMach (C : Addr) : Sp := fun vs H Q _ => ∃ (Z : Hp) (x dx : Addr) (a b : Str) (v3 v4 v5 : V) (M : Mach), vs = [.ref x, .str a, .str b, v3, v4, v5] ∧ Same Z H ∧ Z x = none ∧ H x = some (.ins C dx []) ∧ a ∈ AL ∧ b ∈ AL ∧ MOk M ∧ isL (isL isN) Z v3 M.left ∧ isL (isL isN) Z v4 M.right ∧ isL (isL (isW b)) Z v5 M.table ∧
  ∀ vl vr vt Z' H', Grow (fun y => y = x) Z H Z' H' → Z' x = none → H' x = some (.ins C dx [("reads", .str a), ("writes", .str b), ("left", vl), ("right", vr), ("table", vt)]) → isL (isL isN) Z' vl M.left → isL (isL isN) Z' vr M.right → isL (isL (isW b)) Z' vt M.table → Q .non H'
theorem keep1 {x : Addr} {Z H Z' H' Z2 H2 : Hp} {u : HO} (g : Grow (fun y => y = x) Z H Z' H') (hx : H' x = some u) (zx : Z' x = none) (g2 : Gr Z' H' Z2 H2) : Grow (fun y => y = x) Z H Z2 H2 ∧ H2 x = some u ∧ Z2 x = none := ⟨g.trans (Gr.to g2), g2.keepH hx, g2.keepZ zx hx⟩
abbrev N_Machine___init__ : List Str := ["self", "reads", "writes", "left", "right", "table", "good", "row"]
theorem sc_Machine___init__ : FnScope N_Machine___init__ ["self", "reads", "writes", "left", "right", "table"] (defScope (inClass (top 48) 0)) := ⟨rfl, rfl, rfl, by decide +kernel, rfl, by decide +kernel, by decide +kernel⟩
theorem ok_Machine___init__ (T : Txt K mg) : FnOk P w K mg base CX0 3 T.c_Machine.init.f T.c_Machine.init.fd ["self", "reads", "writes", "left", "right", "table"] (spMach T.c_Machine.C) := by
  refine T.c_Machine.init.fn.ok sc_Machine___init__ (fun vs H Q E h => ?_) (fun cdv A outer s H vs Q E hr h => ?_)
  · obtain ⟨Z, x, dx, a, b, v3, v4, v5, M, rfl, _⟩ := h
    rfl
  · obtain ⟨Z, x, dx, a, b, v3, v4, v5, M, rfl, sub, zx, hx, ha, hb, mo, hl, hr', ht, kk⟩ := h
    refine ⟨_, pss_cons (ps_set (i := 6) sc_Machine___init__.nd rfl (.inl rfl) (pe_and (pe_call (ok_is_alphabet T) (hr.mono (by decide)) (by rfl) T.d_is_alphabet.mg T.d_is_alphabet.fn.kp T.d_is_alphabet.b .nil pass0 (pa_cons (pv 1) pa_nil)) (pe_one (pe_call (ok_is_alphabet T) (hr.mono (by decide)) (by rfl) T.d_is_alphabet.mg T.d_is_alphabet.fn.kp T.d_is_alphabet.b .nil pass0 (pa_cons (pv 2) pa_nil)))))
  (pss_cons (ps_set (i := 6) sc_Machine___init__.nd rfl (.inl rfl) (pe_and (pv 6) (pe_and (pe_call (ok__are_rows T) (hr.mono (by decide)) (by rfl) T.d__are_rows.mg T.d__are_rows.fn.kp T.d__are_rows.b .nil pass0 (pa_cons (pv 3) (pa_cons (pe_callB call_len_str (by rfl) T.b_len (by decide +kernel) (pa_cons (pv 1) pa_nil)) pa_nil))) (pe_one (pe_call (ok__are_rows T) (hr.mono (by decide)) (by rfl) T.d__are_rows.mg T.d__are_rows.fn.kp T.d__are_rows.b .nil pass0 (pa_cons (pv 4) (pa_cons (pe_callB call_len_str (by rfl) T.b_len (by decide +kernel) (pa_cons (pv 1) pa_nil)) pa_nil)))))))
  (pss_cons (ps_if (PW.pt (pw_or (pt_not (pt_val (pv 6))) (pw_or1 (pt_not (pt_val (pe_call (ok__is_table T) (hr.mono (by decide)) (by rfl) T.d__is_table.mg T.d__is_table.fn.kp T.d__is_table.b .nil pass0 (pa_cons (pv 5) (pa_cons (pe_callB (call_len_seqK K rfl) (by rfl) T.b_len (by decide +kernel) (pa_cons (pv 3) pa_nil)) (pa_cons (pe_callB (call_len_seqK K rfl) (by rfl) T.b_len (by decide +kernel) (pa_cons (pv 4) pa_nil)) (pa_cons (pe_callB call_len_str (by rfl) T.b_len (by decide +kernel) (pa_cons (pv 1) pa_nil)) (pa_cons (pv 2) pa_nil)))))))))))
  (pss_one (ps_never))
  (pss_nil))
  (pss_cons (ps_fld (pv 0) (pv 1) rfl)
  (pss_cons (ps_fld (pv 0) (pv 2) rfl)
  (pss_cons (ps_fld (pv 0) (pe_lc (own := [("row", 7)]) rfl sc_Machine___init__.nd (pi_listK K rfl (pv 3)) (blkOk_by (N := N_Machine___init__) (sc := defScope (inClass (top 48) 0)) (by decide +kernel)) (fun _ _ _ _ _ => pg_name (i := 7) sc_Machine___init__.nd rfl (.inl rfl) (.inr rfl)) (fun _ _ _ _ _ => pts_nil) (fun _ _ _ _ _ => pe_callTy (call_list_ofK K rfl) (by rfl) T.b_list (by decide +kernel) (pa_cons (pv 7) pa_nil))) rfl)
  (pss_cons (ps_fld (pv 0) (pe_lc (own := [("row", 7)]) rfl sc_Machine___init__.nd (pi_listK K rfl (pv 4)) (blkOk_by (N := N_Machine___init__) (sc := defScope (inClass (top 48) 0)) (by decide +kernel)) (fun _ _ _ _ _ => pg_name (i := 7) sc_Machine___init__.nd rfl (.inl rfl) (.inr rfl)) (fun _ _ _ _ _ => pts_nil) (fun _ _ _ _ _ => pe_callTy (call_list_ofK K rfl) (by rfl) T.b_list (by decide +kernel) (pa_cons (pv 7) pa_nil))) rfl)
  (pss_one (ps_fld (pv 0) (pe_lc (own := [("row", 7)]) rfl sc_Machine___init__.nd (pi_listK K rfl (pv 5)) (blkOk_by (N := N_Machine___init__) (sc := defScope (inClass (top 48) 0)) (by decide +kernel)) (fun _ _ _ _ _ => pg_name (i := 7) sc_Machine___init__.nd rfl (.inl rfl) (.inr rfl)) (fun _ _ _ _ _ => pts_nil) (fun _ _ _ _ _ => pe_callTy (call_list_ofK K rfl) (by rfl) T.b_list (by decide +kernel) (pa_cons (pv 7) pa_nil))) rfl)))))))), ?_⟩
    have ha2 := (al_two a ha).2.1
    have ll := mo.l40
    have lr := mo.r40
    rw [show L2.start N_Machine___init__ [.ref x, .str a, .str b, v3, v4, v5] = [some (.ref x), some (.str a), some (.str b), some v3, some v4, some v5, none, none] from rfl]
    walk_at "nf"
    refine ⟨_, rfl, Z, a, rfl, sub, ha, fun Z1 H1 g1 => ⟨true, rfl, ifY rfl ⟨_, rfl, Z1, b, rfl, g1.zh, hb, fun Z2 H2 g2 => ?_⟩⟩⟩
    have g2 := g1.trans g2
    walk_at "st"
    refine ⟨_, rfl, true, rfl, ifY rfl ⟨_, rfl, _, rfl, a, rfl, by rw [ha2]; decide, ?_⟩⟩
    rw [ha2]
    refine ⟨Z2, v3, M.left, 2, rfl, g2.zh, Mono.mono g2.z hl, mo.ok.left, by omega, true, rfl, ifY rfl ⟨_, rfl, _, rfl, a, rfl, by rw [ha2]; decide, ?_⟩⟩
    rw [ha2]
    refine ⟨Z2, v4, M.right, 2, rfl, g2.zh, Mono.mono g2.z hr', mo.ok.right, by omega, ?_⟩
    walk_at "st"
    refine ⟨_, rfl, true, rfl, ifN rfl ⟨_, rfl, _, rfl, x_len (Mono.mono g2.z hl) g2.zh rfl ⟨_, rfl, x_len (Mono.mono g2.z hr') g2.zh rfl ⟨_, rfl, a, rfl, by rw [ha2]; decide, ?_⟩⟩⟩⟩
    rw [ha2]
    refine ⟨_, rfl, Z2, v5, b, M.table, _, _, rfl, g2.zh, hb, Mono.mono g2.z ht, mo.ok.tlen, mo.ok.trow, mo.ok.tcell, fun Z3 H3 g3 => ⟨true, rfl, ifN rfl ?_⟩⟩
    have g3 := g2.trans g3
    have hx3 := g3.keepH hx
    have zx3 := g3.keepZ zx hx
    have G3 : Grow (fun y => y = x) Z H Z3 H3 := Gr.to g3
    -- self.reads, self.writes
    refine ⟨_, rfl, _, rfl, x, _, dx, [], rfl, hx3, T.c_Machine.cl, T.n_Machine_reads, (by show 0 < 1000; decide), ?_⟩
    refine ⟨_, rfl, _, rfl, x, _, dx, _, rfl, upd_same, T.c_Machine.cl, T.n_Machine_writes, (by show 1 < 1000; decide), ?_⟩
    rw [upd_upd]
    have G4 := G3.mut (o := .ins T.c_Machine.C dx [("reads", .str a), ("writes", .str b)]) (.inr rfl) zx3 hx3
    -- self.left
    have copy : ∀ {α : Type} {p : Rep α} [Mono p] {xs : List (List α)} {v : V} {Zc Hc : Hp} {i : Nat} {u : HO} {R : VK} {σ : L2.St}, True → True := fun _ => trivial
    refine c_list ⟨_, rfl, k_mapL (K := K) (p := isL isN) (q := isL isN) id (Mono.mono g3.z hl) G4.zh (by omega) (by decide) (fun i row wr Z5 H5 R hi pr g5 hR => ⟨_, rfl, x_lstOf pr g5.zh fun w6 Z6 H6 g6 h6 => hR w6 Z6 H6 g6 h6⟩) (fun vl Z5 H5 g5 hvl => ?_)⟩
    rw [List.map_id] at hvl
    obtain ⟨G5, hx5, zx5⟩ := keep1 G4 upd_same zx3 g5
    refine ⟨_, rfl, x, _, dx, _, rfl, hx5, T.c_Machine.cl, T.n_Machine_left, (by show 2 < 1000; decide), ?_⟩
    have G6 := G5.mut (o := .ins T.c_Machine.C dx [("reads", .str a), ("writes", .str b), ("left", vl)]) (.inr rfl) zx5 hx5
    -- self.right
    refine c_list ⟨_, rfl, k_mapL (K := K) (p := isL isN) (q := isL isN) id (Mono.mono (g3.z.trans g5.z) hr') G6.zh (by omega) (by decide) (fun i row wr Z5 H5 R hi pr g5 hR => ⟨_, rfl, x_lstOf pr g5.zh fun w6 Z6 H6 g6 h6 => hR w6 Z6 H6 g6 h6⟩) (fun vr Z7 H7 g7 hvr => ?_)⟩
    rw [List.map_id] at hvr
    obtain ⟨G7, hx7, zx7⟩ := keep1 G6 upd_same zx5 g7
    refine ⟨_, rfl, x, _, dx, _, rfl, hx7, T.c_Machine.cl, T.n_Machine_right, (by show 3 < 1000; decide), ?_⟩
    have G8 := G7.mut (o := .ins T.c_Machine.C dx [("reads", .str a), ("writes", .str b), ("left", vl), ("right", vr)]) (.inr rfl) zx7 hx7
    -- self.table
    refine c_list ⟨_, rfl, k_mapL (K := K) (p := isL (isW b)) (q := isL (isW b)) id (Mono.mono ((g3.z.trans g5.z).trans g7.z) ht) G8.zh (by rw [mo.ok.tlen]; omega) (by decide) (fun i row wr Z5 H5 R hi pr g5 hR => ⟨_, rfl, x_lstOf pr g5.zh fun w6 Z6 H6 g6 h6 => hR w6 Z6 H6 g6 h6⟩) (fun vt Z9 H9 g9 hvt => ?_)⟩
    rw [List.map_id] at hvt
    obtain ⟨G9, hx9, zx9⟩ := keep1 G8 upd_same zx7 g9
    refine ⟨_, rfl, x, _, dx, _, rfl, hx9, T.c_Machine.cl, T.n_Machine_table, (by show 4 < 1000; decide), ?_⟩
    have G10 := G9.mut (o := .ins T.c_Machine.C dx [("reads", .str a), ("writes", .str b), ("left", vl), ("right", vr), ("table", vt)]) (.inr rfl) zx9 hx9
    exact kk vl vr vt Z9 _ G10 zx9 upd_same (Mono.mono (g7.z.trans g9.z) hvl) (Mono.mono g9.z hvr) hvt
theorem a_new5 {C : Addr} {sp : Sp} {E : XK} {ta tb tc td te : TE} {σ : L2.St} {H : Hp} {Q : VK} (h : ta σ H fun v1 H1 => tb σ H1 fun v2 H2 => tc σ H2 fun v3 H3 => td σ H3 fun v4 H4 => te σ H4 fun v5 H5 => NewK C sp E [v1, v2, v3, v4, v5] H5 Q) :
    tMake C sp [] E (tCons ta (tCons tb (tCons tc (tCons td (tCons te tNil))))) σ H Q := h
theorem x_newM {C : Addr} {Z H : Hp} {E : XK} {Q : VK} {a b : Str} {v3 v4 v5 : V} {M : Mach} (sub : Same Z H) (ha : a ∈ AL) (hb : b ∈ AL) (mo : MOk M) (hl : isL (isL isN) Z v3 M.left) (hr : isL (isL isN) Z v4 M.right) (ht : isL (isL (isW b)) Z v5 M.table)
    (k : ∀ v Z' H', Gr Z H Z' H' → isMach C a b Z' v M → Q v H') : NewK C (spMach C) E [.str a, .str b, v3, v4, v5] H Q := fun x dx hx hdx ne => by
  have hx' : (upd H dx (.own x)) x = none := by rw [upd_ne ne.symm]; exact hx
  have g0 : Gr Z H Z (upd (upd H dx (.own x)) x (.ins C dx [])) := ((Grow.refl sub).alloc hdx).alloc hx'
  refine ⟨Z, x, dx, a, b, v3, v4, v5, M, rfl, g0.zh, sub.free hx, upd_same, ha, hb, mo, hl, hr, ht, fun vl vr vt Z' H' g zx hx1 h1 h2 h3 => ⟨rfl, ?_⟩⟩
  have g1 : Gr Z H Z' H' := Grow.fresh g0 g fun y e => e ▸ hx
  have g2 := g1.freeze hx zx hx1
  have s := same_upd (Z := Z') (p := x) (o := .ins C dx [("reads", .str a), ("writes", .str b), ("left", vl), ("right", vr), ("table", vt)]) zx
  exact k _ _ _ g2 ⟨x, dx, vl, vr, vt, rfl, upd_same, Mono.mono s h1, Mono.mono s h2, Mono.mono s h3⟩
def spMirror (C : Addr) : Sp := fun vs H Q _ => ∃ (Z : Hp) (v0 : V) (a b : Str) (M : Mach), vs = [v0] ∧ Same Z H ∧ isMach C a b Z v0 M ∧ a ∈ AL ∧ b ∈ AL ∧ MOk M ∧
  ∀ v Z' H', Gr Z H Z' H' → isMach C a b Z' v M.mir → Q v H'
theorem MOk.mir {M : Mach} (h : MOk M) : MOk M.mir := ⟨Mach.mir_ok h.ok, h.r40, h.l40⟩
abbrev N_mirror : List Str := ["machine", "table", "row", "j"]
theorem sc_mirror : FnScope N_mirror ["machine"] (defScope (top 49)) := ⟨rfl, rfl, rfl, by decide +kernel, rfl, by decide +kernel, by decide +kernel⟩
theorem ok_mirror (T : Txt K mg) : FnOk P w K mg base CX0 5 T.d_mirror.f T.d_mirror.fd ["machine"] (spMirror T.c_Machine.C) := by
  refine T.d_mirror.fn.ok sc_mirror (fun vs H Q E h => ?_) (fun cdv A outer s H vs Q E hr h => ?_)
  · obtain ⟨Z, v0, a, b, M, rfl, _⟩ := h
    rfl
  · obtain ⟨Z, v0, a, b, M, rfl, sub, hM, ha, hb, mo, kk⟩ := h
    refine ⟨_, pss_cons (ps_setLc (i := 1) (own := [("j", 3)]) rfl sc_mirror.nd rfl rfl (sw_true rfl rfl rfl (by decide +kernel)) (pi_range1 (by rfl) T.b_range (pa_cons (pe_callB (call_len_seqK K rfl) (by rfl) T.b_len (by decide +kernel) (pa_cons (pe_fldK K rfl (pv 0) rfl) pa_nil)) pa_nil)) (blkOk_by (N := N_mirror) (sc := defScope (top 49)) (by decide +kernel)) (fun _ _ _ _ _ => pg_name (i := 3) sc_mirror.nd rfl (.inr rfl) (.inl rfl)) (fun _ _ _ _ _ => pts_nil) (fun _ _ _ _ _ => pe_lc (own := [("row", 2)]) rfl sc_mirror.nd (pi_listK K rfl (pe_fldK K rfl (pv 0) rfl)) (blkOk_in (N := N_mirror) (sc0 := defScope (top 49)) rfl rfl (by decide +kernel)) (fun _ _ _ _ _ => pg_name (i := 2) sc_mirror.nd rfl (.inl rfl) (.inr rfl)) (fun _ _ _ _ _ => pts_nil) (fun _ _ _ _ _ => pe_ix (ix_listK K rfl) (pv 2) (pv 3) (fun _ _ => rfl))))
  (pss_one (ps_ret (pe_make T.c_Machine.mkc (ok_Machine___init__ T) (hr.mono (by decide)) (by rfl) T.c_Machine.mg T.c_Machine.init.b .nil pass0 (pa_cons (pe_fldK K rfl (pv 0) rfl) (pa_cons (pe_fldK K rfl (pv 0) rfl) (pa_cons (pe_fldK K rfl (pv 0) rfl) (pa_cons (pe_fldK K rfl (pv 0) rfl) (pa_cons (pv 1) pa_nil)))))))), ?_⟩
    obtain ⟨x, dx, vl, vr, vt, rfl, hx, hl, hr', ht⟩ := hM
    have ll := mo.l40
    have lr := mo.r40
    walk_at "nf"
    refine c_range ?_
    walk_at "nf"
    refine ⟨_, rfl, x, _, dx, _, vr, rfl, sub _ _ hx, T.c_Machine.cl, T.n_Machine_right, rfl, x_len hr' sub rfl ?_⟩
    refine k_mapR (n := M.right.length) (q := isL (isW b)) (fun j => M.table.map fun row => row.getD j []) rfl sub (by omega) (by decide) (fun j Z1 H1 R hj g1 hR => ?_) (fun vn Z1 H1 g1 hn => ?_)
    · refine c_list ⟨_, rfl, x, _, dx, _, vt, rfl, g1.zh _ _ (g1.z _ _ hx), T.c_Machine.cl, T.n_Machine_table, rfl, k_mapL (K := K) (p := isL (isW b)) (q := isW b) (fun row => row.getD j []) (Mono.mono g1.z ht) g1.zh (by rw [mo.ok.tlen]; omega) (by decide) (fun i row wr Z2 H2 R2 hi pr g2 hR2 => ?_) (fun v2 Z2 H2 g2 h2 => hR v2 Z2 H2 g2 h2)⟩
      exact ⟨_, rfl, _, rfl, x_ix pr g2.zh (get_of (d := []) (by rw [mo.ok.trow row (List.mem_of_getElem? hi)]; exact hj)) fun w3 h3 => hR2 w3 Z2 H2 (Grow.refl g2.zh) h3⟩
    · have hx1 := g1.zh _ _ (g1.z _ _ hx)
      refine a_new5 ⟨_, rfl, x, _, dx, _, _, rfl, hx1, T.c_Machine.cl, T.n_Machine_reads, rfl, _, rfl, x, _, dx, _, _, rfl, hx1, T.c_Machine.cl, T.n_Machine_writes, rfl, _, rfl, x, _, dx, _, _, rfl, hx1, T.c_Machine.cl, T.n_Machine_right, rfl, _, rfl, x, _, dx, _, _, rfl, hx1, T.c_Machine.cl, T.n_Machine_left, rfl, _, rfl, ?_⟩
      exact x_newM (M := M.mir) g1.zh ha hb mo.mir (Mono.mono g1.z hr') (Mono.mono g1.z hl) hn fun v Z2 H2 g2 h2 => kk v Z2 H2 (g1.trans g2) h2
end
end K87

set_option autoImplicit true
set_option Elab.async false
set_option linter.all false
set_option maxRecDepth 100000
set_option maxHeartbeats 4000000
set_option pp.deepTerms.threshold 6
/-! K87D12: least. -/
namespace K87
open PySem L2 PySem.Spec PyProof.Rows
/-- the numbers of a text's letters -/
def dec (b : Str) (s : Str) : List Nat := s.cps.toList.map fun c => (cs b).idxOf c
theorem dec_str {b : Str} (hb : b ∈ AL) {u : List Nat} (hu : ∀ k ∈ u, k < 2) : dec b (strOf b u) = u := by
  unfold dec
  rw [strOf_l, List.map_map]
  conv => rhs; rw [← List.map_id u]
  exact List.map_congr_left fun k hk => (al_get hb (hu k hk)).2
def tabOf (b : Str) (tb : List (List (List Nat))) : List (List Str) := tb.map fun row => row.map (strOf b)
def decT (b : Str) (nt : List (List Str)) : List (List (List Nat)) := nt.map fun row => row.map (dec b)
theorem least_mach {M : Mach} {b : Str} (hb : b ∈ AL) (mo : MOk M) {nl nr : List (List Nat)} {nt : List (List Str)} (L : Least M.left M.right (tabOf b M.table) Str.empty 2 nl nr nt) :
    MOk ⟨nl, nr, decT b nt⟩ ∧ (∀ row ∈ nt, ∀ c ∈ row, strOf b (dec b c) = c) ∧ ∀ u : List Nat, (∀ k ∈ u, k < 2) → Mach.out ⟨nl, nr, decT b nt⟩ 0 0 u = M.out 0 0 u := by
  have hcell : ∀ row ∈ nt, ∀ c ∈ row, ∃ row' ∈ M.table, ∃ u ∈ row', c = strOf b u := fun row hr c hc => by
    obtain ⟨row', hr', hc'⟩ := L.tcell row hr c hc
    obtain ⟨r2, h2, rfl⟩ := List.mem_map.mp hr'
    obtain ⟨u, hu, rfl⟩ := List.mem_map.mp hc'
    exact ⟨r2, h2, u, hu, rfl⟩
  refine ⟨⟨⟨L.rl, L.rr, ?_, fun row hr => ?_, fun row hr c hc => ?_⟩, Nat.le_trans L.ll mo.l40, Nat.le_trans L.lr mo.r40⟩, fun row hr c hc => ?_, ?_⟩
  · show (nt.map _).length = nl.length
    rw [List.length_map, L.tlen]
  · obtain ⟨r2, h2, rfl⟩ := List.mem_map.mp hr
    rw [List.length_map, L.trow r2 h2]
  · obtain ⟨r2, h2, rfl⟩ := List.mem_map.mp hr
    obtain ⟨c2, hc2, rfl⟩ := List.mem_map.mp hc
    obtain ⟨row', hr', u, hu, rfl⟩ := hcell r2 h2 c2 hc2
    rw [dec_str hb (mo.ok.tcell row' hr' u hu).2]
    exact mo.ok.tcell row' hr' u hu
  · obtain ⟨row', hr', u, hu, rfl⟩ := hcell row hr c hc
    rw [dec_str hb (mo.ok.tcell row' hr' u hu).2]
  · obtain ⟨A, B, f, g, sl, sr, ht⟩ := L.sim
    intro u hu
    have e := sim_out (M := M) (M' := ⟨nl, nr, decT b nt⟩) (j := 0) sl sr (fun i j k hi hj hk => ?_) sr.start (u := u) (i := 0) sl.start hu
    · rw [sl.zero, sr.zero] at e; exact e
    · obtain ⟨h1, h2, h3⟩ := ht i j hi hj
      have e1 : ((decT b nt).getD (f i) []).getD (g j) [] = dec b ((nt.getD (f i) []).getD (g j) Str.empty) := by
        unfold decT
        rw [show ([] : List (List Nat)) = (fun row : List Str => row.map (dec b)) [] from rfl, getD_mapf]
        exact getD_mapf (dec b) _ _ Str.empty
      have e2 : ((tabOf b M.table).getD i []).getD j Str.empty = strOf b ((M.table.getD i []).getD j []) := by
        unfold tabOf
        rw [show ([] : List Str) = (fun row : List (List Nat) => row.map (strOf b)) [] from rfl, getD_mapf]
        exact getD_mapf (strOf b) _ _ []
      show (((decT b nt).getD (f i) []).getD (g j) []).getD k 0 = ((M.table.getD i []).getD j []).getD k 0
      rw [e1, h3, e2]
      have m1 : M.table.getD i [] ∈ M.table := getD_mem (by rw [mo.ok.tlen]; exact h1)
      have m2 : (M.table.getD i []).getD j [] ∈ M.table.getD i [] := getD_mem (by rw [mo.ok.trow _ m1]; exact h2)
      rw [dec_str hb (mo.ok.tcell _ m1 _ m2).2]
section
local macro_rules | `(tactic| walk_at "nf") => `(tactic| try dsimp only [tSeq, tAsg, gName, tRet, tRetN, tDrop, tNext, tIfS, tTest, tB, tOp, tUn, tNil, tCons, tCB, tC, tAnd, tOr, tNot, tAndV, tOrV, tNotV, tIf, sDPut, sFld, sFldAug, tM0, tM1, tBM, tBM0, tMeth, tCall, sGPut, tGGet, tGNin, tDGet, tDNotIn, tDIn, tFld, tChain])
local macro_rules | `(tactic| walk_at "st") => `(tactic| try dsimp only [wipe, List.set_cons_zero, List.set_cons_succ])
variable {P : Program} {w : World} {K : PySem.W.Frag} {mg : Str → Option Value} {base : Heap}
def spLeast (C : Addr) : Sp := fun vs H Q _ => ∃ (Z : Hp) (v0 : V) (a b : Str) (M : Mach), vs = [v0] ∧ Same Z H ∧ isMach C a b Z v0 M ∧ a ∈ AL ∧ b ∈ AL ∧ MOk M ∧
  ∀ v Z' H' M', Gr Z H Z' H' → isMach C a b Z' v M' → MOk M' → (∀ u : List Nat, (∀ k ∈ u, k < 2) → M'.out 0 0 u = M.out 0 0 u) → Q v H'
abbrev N_least : List Str := ["machine", "left", "right", "table"]
theorem sc_least : FnScope N_least ["machine"] (defScope (top 51)) := ⟨rfl, rfl, rfl, by decide +kernel, rfl, by decide +kernel, by decide +kernel⟩
theorem ok_least (T : Txt K mg) : FnOk P w K mg base CX0 5 T.d_least.f T.d_least.fd ["machine"] (spLeast T.c_Machine.C) := by
  refine T.d_least.fn.ok sc_least (fun vs H Q E h => ?_) (fun cdv A outer s H vs Q E hr h => ?_)
  · obtain ⟨Z, v0, a, b, M, rfl, _⟩ := h
    rfl
  · obtain ⟨Z, v0, a, b, M, rfl, sub, hM, ha, hb, mo, kk⟩ := h
    refine ⟨_, pss_cons (ps_asg (pe_call (ok_least_parts T) (hr.mono (by decide)) (by rfl) T.d_least_parts.mg T.d_least_parts.fn.kp T.d_least_parts.b .nil pass0 (pa_cons (pe_fldK K rfl (pv 0) rfl) (pa_cons (pe_fldK K rfl (pv 0) rfl) (pa_cons (pe_fldK K rfl (pv 0) rfl) (pa_cons (pe_callB call_len_str (by rfl) T.b_len (by decide +kernel) (pa_cons (pe_fldK K rfl (pv 0) rfl) pa_nil)) pa_nil))))) (pg_tupK (n := 3) K rfl rfl (pgs_cons (pg_name (i := 1) sc_least.nd rfl (.inl rfl) (.inl rfl)) (pgs_cons (pg_name (i := 2) sc_least.nd rfl (.inl rfl) (.inl rfl)) (pgs_cons (pg_name (i := 3) sc_least.nd rfl (.inl rfl) (.inl rfl)) pgs_nil)))))
  (pss_one (ps_ret (pe_make T.c_Machine.mkc (ok_Machine___init__ T) (hr.mono (by decide)) (by rfl) T.c_Machine.mg T.c_Machine.init.b .nil pass0 (pa_cons (pe_fldK K rfl (pv 0) rfl) (pa_cons (pe_fldK K rfl (pv 0) rfl) (pa_cons (pv 1) (pa_cons (pv 2) (pa_cons (pv 3) pa_nil)))))))), ?_⟩
    obtain ⟨x, dx, vl, vr, vt, rfl, hx, hl, hr', ht⟩ := hM
    have ha2 := (al_two a ha).2.1
    walk_at "nf"
    refine ⟨_, rfl, x, _, dx, _, _, rfl, sub _ _ hx, T.c_Machine.cl, T.n_Machine_left, rfl, _, rfl, x, _, dx, _, _, rfl, sub _ _ hx, T.c_Machine.cl, T.n_Machine_right, rfl, _, rfl, x, _, dx, _, _, rfl, sub _ _ hx, T.c_Machine.cl, T.n_Machine_table, rfl, _, rfl, x, _, dx, _, _, rfl, sub _ _ hx, T.c_Machine.cl, T.n_Machine_reads, rfl, a, rfl, by rw [ha2]; decide, ?_⟩
    rw [ha2]
    have htS : isL (isL isS) Z vt (tabOf b M.table) := isL_map ht fun v row _ h => isL_map h fun v c _ h => h
    have tl : (tabOf b M.table).length = M.left.length := by unfold tabOf; rw [List.length_map, mo.ok.tlen]
    have tr : ∀ row ∈ tabOf b M.table, row.length = M.right.length := fun row hrow => by
      obtain ⟨r2, h2, rfl⟩ := List.mem_map.mp hrow
      rw [List.length_map, mo.ok.trow r2 h2]
    have ll := mo.l40
    have lr := mo.r40
    refine ⟨Z, vl, vr, vt, M.left, M.right, tabOf b M.table, 2, rfl, sub, hl, hr', htS, mo.ok.left, mo.ok.right, by omega, by omega, by omega, tl, tr, fun t wl wr wt Z1 H1 nl nr nt g1 hT hnl hnr hnt L => ?_⟩
    obtain ⟨mo', hce, hout⟩ := least_mach hb mo L
    refine ⟨t, _, rfl, SqT.of (g1.zh _ _ hT), rfl, _, _, rfl, _, _, rfl, _, _, rfl, rfl, ?_⟩
    have hx1 := g1.zh _ _ (g1.z _ _ hx)
    have hntW : isL (isL (isW b)) Z1 wt (decT b nt) := isL_map hnt fun v row hrow h => isL_map h fun v c hc h => by
      show v = .str (strOf b (dec b c))
      rw [hce row hrow c hc]; exact h
    refine a_new5 ⟨_, rfl, x, _, dx, _, _, rfl, hx1, T.c_Machine.cl, T.n_Machine_reads, rfl, _, rfl, x, _, dx, _, _, rfl, hx1, T.c_Machine.cl, T.n_Machine_writes, rfl, _, rfl, _, rfl, _, rfl, ?_⟩
    exact x_newM (M := ⟨nl, nr, decT b nt⟩) g1.zh ha hb mo' hnl hnr hntW fun v Z2 H2 g2 h2 => kk v Z2 H2 _ (g1.trans g2) h2 mo' hout
end
end K87

set_option autoImplicit true
set_option Elab.async false
set_option linter.all false
set_option maxRecDepth 100000
set_option maxHeartbeats 4000000
set_option pp.deepTerms.threshold 6
/-! K87Hist: dicts of counts whose keys are tuples of numbers; walking them. -/
namespace K87
open PySem L2 PySem.Spec PyProof.Rows
/-- the source's value is locked for good -/
def tLockV (te : TE) : TE := fun σ H Q => te σ H fun x H1 => ∃ d u, x = .ref d ∧ H1 d = some u ∧ Mut (some u) ∧ ∀ od, Q x (upd H1 d (.frz od u))
theorem pe_lockV {X : Cx} {e : Expr} {te : TE} (h : PE X e te) : PE X e (tLockV te) := by
  refine ⟨fun pins s σ H Q I hw => thn (h.run pins s σ H _ I hw) fun v s1 ⟨x, H1, I1, r, d, u, ex, hd, mu, q⟩ => ?_⟩
  obtain ⟨od, I2⟩ := I1.lock hd mu
  exact ⟨x, _, I2, r, q od⟩
abbrev HL := List (List Nat × Nat)
def hD (kvs : HL) : List (List Key × V) := kvs.map fun p => (kT p.1, V.int (p.2 : Int))
theorem hD_len (kvs : HL) : (hD kvs).length = kvs.length := List.length_map _
theorem hD_get {kvs : HL} {i : Nat} {k : List Key} {v : V} (h : (hD kvs)[i]? = some (k, v)) : ∃ p, kvs[i]? = some p ∧ k = kT p.1 ∧ v = .int (p.2 : Int) := by
  unfold hD at h
  rw [List.getElem?_map, Option.map_eq_some_iff] at h
  obtain ⟨p, h1, h2⟩ := h
  injection h2 with h2 h3
  exact ⟨p, h1, h2.symm, h3.symm⟩
theorem hD_val (kvs : HL) (k : List Nat) : valV (hD kvs) (kT k) = if has kvs k = true then some (.int ((look kvs k : Nat) : Int)) else none := by
  induction kvs with
  | nil => rfl
  | cons p kvs ih =>
    show valV ((kT p.1, V.int (p.2 : Int)) :: hD kvs) (kT k) = _
    rw [valV_consK, ih]
    have hc : has (p :: kvs) k = (decide (p.1 = k) || has kvs k) := by unfold has; rw [List.any_cons]
    rw [look_cons, hc]
    by_cases h : p.1 = k
    · subst h
      simp
    · have : ¬ kT p.1 = kT k := fun e => h (kT_inj _ _ e)
      rw [if_neg this, if_neg h]
      simp [h]
theorem hD_getD (kvs : HL) (k : List Nat) : (valV (hD kvs) (kT k)).getD (.int 0) = .int ((look kvs k : Nat) : Int) := by
  rw [hD_val]
  by_cases h : has kvs k = true
  · rw [if_pos h]; rfl
  · rw [if_neg h]
    have : look kvs k = 0 := by
      unfold look
      rw [List.find?_eq_none.mpr]; rfl
      intro p hp e
      exact h (by unfold has; rw [List.any_eq_true]; exact ⟨p, hp, e⟩)
    rw [this]; rfl
theorem hD_put (kvs : HL) (k : List Nat) (c : Nat) : putK (hD kvs) (kT k) (.int ((look kvs k + c : Nat) : Int)) = hD (addK kvs k c) := by
  have ha : ((hD kvs).any fun kv => decide (kv.1 = kT k)) = has kvs k := by
    unfold hD has
    rw [List.any_map]
    congr 1
    funext p
    show decide (kT p.1 = kT k) = decide (p.1 = k)
    rw [decide_eq_decide]
    exact ⟨kT_inj _ _, fun e => e ▸ rfl⟩
  unfold putK addK
  rw [ha]
  by_cases h : has kvs k = true
  · rw [if_pos h, if_pos h]
    unfold hD
    rw [List.map_map, List.map_map]
    refine List.map_congr_left fun p _ => ?_
    show (if kT p.1 = kT k then (kT p.1, _) else _) = _
    by_cases e : p.1 = k
    · rw [if_pos (by rw [e])]
      simp [e]
    · rw [if_neg (fun z => e (kT_inj _ _ z))]
      simp [e]
  · rw [if_neg h, if_neg h]
    have : look kvs k = 0 := by
      unfold look
      rw [List.find?_eq_none.mpr]; rfl
      intro p hp e
      exact h (by unfold has; rw [List.any_eq_true]; exact ⟨p, hp, e⟩)
    unfold hD
    rw [List.map_append, this, Nat.zero_add]; rfl
/-- no key twice, each of the kind B -/
structure Hist (B : List Nat → Prop) (kvs : HL) : Prop where
  nd : (kvs.map (·.1)).Nodup
  all : ∀ p ∈ kvs, B p.1
theorem Hist.nil {B : List Nat → Prop} : Hist B [] := ⟨List.nodup_nil, by simp⟩
theorem Hist.add {B : List Nat → Prop} {kvs : HL} (h : Hist B kvs) {k : List Nat} (hk : B k) (c : Nat) : Hist B (addK kvs k c) := by
  refine ⟨addK_nodup k c h.nd, fun p hp => ?_⟩
  have : p.1 ∈ (addK kvs k c).map (·.1) := List.mem_map_of_mem hp
  rw [addK_keys] at this
  by_cases c' : has kvs k = true
  · rw [if_pos c'] at this
    obtain ⟨q, hq, e⟩ := List.mem_map.mp this
    rw [← e]; exact h.all q hq
  · rw [if_neg c', List.mem_append] at this
    rcases this with this | this
    · obtain ⟨q, hq, e⟩ := List.mem_map.mp this
      rw [← e]; exact h.all q hq
    · rw [List.mem_singleton.mp this]; exact hk
def B3 (a b c : Nat) (key : List Nat) : Prop := ∃ i j q, key = [i, j, q] ∧ i < a ∧ j < b ∧ q < c
def B2 (a b : Nat) (key : List Nat) : Prop := ∃ i j, key = [i, j] ∧ i < a ∧ j < b
theorem nodup_few {l : List (List Nat)} {n : Nat} {f : List Nat → Nat} (nd : l.Nodup) (h : ∀ k ∈ l, f k < n) (inj : ∀ a ∈ l, ∀ b ∈ l, f a = f b → a = b) : l.length ≤ n := by
  have := nodup_bound (l := l.map f) (n := n) (nodup_map_on nd inj) fun x hx => by
    obtain ⟨k, hk, rfl⟩ := List.mem_map.mp hx
    exact h k hk
  rwa [List.length_map] at this
theorem mix_lt {i j a b : Nat} (hi : i < a) (hj : j < b) : i * b + j < a * b := by
  have : (i + 1) * b ≤ a * b := Nat.mul_le_mul_right b hi
  rw [Nat.add_mul] at this
  omega
theorem mix_inj {i j i' j' b : Nat} (hj : j < b) (hj' : j' < b) (e : i * b + j = i' * b + j') : i = i' ∧ j = j' := by
  have hb : 0 < b := by omega
  have e1 : (i * b + j) / b = i := by rw [Nat.mul_comm, Nat.mul_add_div hb, Nat.div_eq_of_lt hj]; omega
  have e2 : (i' * b + j') / b = i' := by rw [Nat.mul_comm, Nat.mul_add_div hb, Nat.div_eq_of_lt hj']; omega
  have : i = i' := by rw [← e1, e, e2]
  subst this
  exact ⟨rfl, by omega⟩
theorem Hist.few2 {a b : Nat} {kvs : HL} (h : Hist (B2 a b) kvs) : kvs.length ≤ a * b := by
  have := nodup_few (l := kvs.map (·.1)) (n := a * b) (f := fun k => k.getD 0 0 * b + k.getD 1 0) h.nd (fun k hk => by
    obtain ⟨p, hp, rfl⟩ := List.mem_map.mp hk
    obtain ⟨i, j, e, hi, hj⟩ := h.all p hp
    rw [e]; exact mix_lt hi hj) fun k hk k' hk' e => by
    obtain ⟨p, hp, rfl⟩ := List.mem_map.mp hk
    obtain ⟨p', hp', rfl⟩ := List.mem_map.mp hk'
    obtain ⟨i, j, e1, hi, hj⟩ := h.all p hp
    obtain ⟨i', j', e2, hi', hj'⟩ := h.all p' hp'
    rw [e1, e2] at e ⊢
    obtain ⟨rfl, rfl⟩ := mix_inj (b := b) hj hj' e
    rfl
  rwa [List.length_map] at this
theorem Hist.few3 {a b c : Nat} {kvs : HL} (h : Hist (B3 a b c) kvs) : kvs.length ≤ a * b * c := by
  have := nodup_few (l := kvs.map (·.1)) (n := a * b * c) (f := fun k => (k.getD 0 0 * b + k.getD 1 0) * c + k.getD 2 0) h.nd (fun k hk => by
    obtain ⟨p, hp, rfl⟩ := List.mem_map.mp hk
    obtain ⟨i, j, q, e, hi, hj, hq⟩ := h.all p hp
    rw [e]; exact mix_lt (mix_lt hi hj) hq) fun k hk k' hk' e => by
    obtain ⟨p, hp, rfl⟩ := List.mem_map.mp hk
    obtain ⟨p', hp', rfl⟩ := List.mem_map.mp hk'
    obtain ⟨i, j, q, e1, hi, hj, hq⟩ := h.all p hp
    obtain ⟨i', j', q', e2, hi', hj', hq'⟩ := h.all p' hp'
    rw [e1, e2] at e ⊢
    obtain ⟨e3, rfl⟩ := mix_inj (b := c) hq hq' e
    obtain ⟨rfl, rfl⟩ := mix_inj (b := b) hj hj' e3
    rfl
  rwa [List.length_map] at this
/-- unlocked again -/
theorem Grow.unlock {Z H Z1 Hc : Hp} {d : Addr} {od : Obj} {u : HO} (g : Gr Z (upd H d (.frz od u)) Z1 Hc) (hd : H d = some u) (hz : Z d = none) : Gr Z H Z1 (upd Hc d u) ∧ Hc d = some (.frz od u) ∧ Z1 d = none := by
  have z1 : Z1 d = none := g.keepZ hz upd_same
  refine ⟨⟨g.z, fun a o m e => ?_, fun a o e => ?_, fun a o e => ?_, fun a o e => ?_⟩, g.keepH upd_same, z1⟩
  · by_cases c : a = d
    · subst c; rw [hd] at e; rw [upd_same]; exact e
    · rw [upd_ne c]; exact g.h a o m (by rw [upd_ne c]; exact e)
  · by_cases c : a = d
    · subst c; exact ⟨u, upd_same⟩
    · obtain ⟨o', e'⟩ := g.dom a o (by rw [upd_ne c]; exact e)
      exact ⟨o', by rw [upd_ne c]; exact e'⟩
  · rw [upd_ne (ne_of_none e z1)]; exact g.zh a o e
  · rcases g.new a o e with q | q
    · exact .inl q
    · right
      by_cases c : a = d
      · subst c; rw [upd_same] at q; cases q
      · rw [upd_ne c] at q; exact q
theorem same_lock {Z H : Hp} {d : Addr} {o : HO} (s : Same Z H) (hz : Z d = none) : Same Z (upd H d o) := fun a u e => by rw [upd_ne (ne_of_none e hz)]; exact s a u e
def ForI (g : TG) (tb : TS) (D : Ends) (σ : L2.St) (v : V) (H : Hp) : Prop := ∃ d o kvs, v = .ref d ∧ H d = some (.frz o (.dT kvs)) ∧ forTail g tb D σ (ItT d o kvs) H
theorem f_items {g : TG} {tb : TS} {D : Ends} {σ : L2.St} {H : Hp} {td : TE} (h : td σ H fun v H1 => ForI g tb D σ v H1) : tFor (iItemsT td) g tb D σ H := h
section
variable {K : PySem.W.Frag} {g : TG} {tb : TS} {D : Ends} {σ : L2.St} {H : Hp} {v : V} {kvs : HL} {s1 s2 s3 s4 : Nat} {d : Addr} {od : Obj}
theorem k_forI3 {a b c : Nat} (hv : v = .ref d) (hd : H d = some (.frz od (.dT (hD kvs)))) (hB : Hist (B3 a b c) kvs) (Pv : Nat → L2.St → Hp → Prop) (h0 : Pv 0 σ H) (hk : ∀ i σ H, Pv i σ H → H d = some (.frz od (.dT (hD kvs))))
    (hs : ∀ (n : Nat) i j q z σ' H' T U, kvs[n]? = some ([i, j, q], z) → i < a → j < b → q < c → Pv n σ' H' → H' T = none →
      tb { D with nx := Pv (n + 1), ct := Pv (n + 1), bk := D.nx } ((((σ'.set s1 (some (.int (i : Int)))).set s2 (some (.int (j : Int)))).set s3 (some (.int (q : Int)))).set s4 (some (.int (z : Int)))) (upd H' T (.tup [.ref U, .int (z : Int)]))) (hn : ∀ σ' H', Pv kvs.length σ' H' → D.nx σ' H') :
    ForI (gTup K 2 (gCons (gTup K 3 (gCons (gName s1) (gCons (gName s2) (gCons (gName s3) gNil)))) (gCons (gName s4) gNil))) tb D σ v H := by
  refine ⟨d, od, _, hv, hd, ?_⟩
  refine for_it (walk_itemsT (kvs := hD kvs)) Pv h0 (fun i σ H _ h => hk i σ H h) (fun n x σ' H' H2 hn' h hy => ?_) (by rw [hD_len]; exact hn)
  obtain ⟨T, U, k, w, hkv, hU, rfl, hT, rfl⟩ := hy
  obtain ⟨p, hp, rfl, rfl⟩ := hD_get hkv
  obtain ⟨i, j, q, e, hi, hj, hq⟩ := hB.all p (List.mem_of_getElem? hp)
  rw [e, kT_v] at hU
  have hU2 : (upd H' T (.tup [.ref U, .int (p.2 : Int)])) U = some (.tup (vN [i, j, q])) := by rw [upd_ne (ne_of_none hU hT)]; exact hU
  exact ⟨T, _, rfl, SqT.of upd_same, rfl, _, _, rfl, ⟨U, _, rfl, SqT.of hU2, rfl, _, _, rfl, _, _, rfl, _, _, rfl, rfl, _, _, rfl, rfl, hs n i j q p.2 σ' H' T U (by rw [hp, ← e]) hi hj hq h hT⟩⟩
theorem k_forI2 {a b : Nat} (hv : v = .ref d) (hd : H d = some (.frz od (.dT (hD kvs)))) (hB : Hist (B2 a b) kvs) (Pv : Nat → L2.St → Hp → Prop) (h0 : Pv 0 σ H) (hk : ∀ i σ H, Pv i σ H → H d = some (.frz od (.dT (hD kvs))))
    (hs : ∀ (n : Nat) i j z σ' H' T U, kvs[n]? = some ([i, j], z) → i < a → j < b → Pv n σ' H' → H' T = none →
      tb { D with nx := Pv (n + 1), ct := Pv (n + 1), bk := D.nx } (((σ'.set s1 (some (.int (i : Int)))).set s2 (some (.int (j : Int)))).set s4 (some (.int (z : Int)))) (upd H' T (.tup [.ref U, .int (z : Int)]))) (hn : ∀ σ' H', Pv kvs.length σ' H' → D.nx σ' H') :
    ForI (gTup K 2 (gCons (gTup K 2 (gCons (gName s1) (gCons (gName s2) gNil))) (gCons (gName s4) gNil))) tb D σ v H := by
  refine ⟨d, od, _, hv, hd, ?_⟩
  refine for_it (walk_itemsT (kvs := hD kvs)) Pv h0 (fun i σ H _ h => hk i σ H h) (fun n x σ' H' H2 hn' h hy => ?_) (by rw [hD_len]; exact hn)
  obtain ⟨T, U, k, w, hkv, hU, rfl, hT, rfl⟩ := hy
  obtain ⟨p, hp, rfl, rfl⟩ := hD_get hkv
  obtain ⟨i, j, e, hi, hj⟩ := hB.all p (List.mem_of_getElem? hp)
  rw [e, kT_v] at hU
  have hU2 : (upd H' T (.tup [.ref U, .int (p.2 : Int)])) U = some (.tup (vN [i, j])) := by rw [upd_ne (ne_of_none hU hT)]; exact hU
  exact ⟨T, _, rfl, SqT.of upd_same, rfl, _, _, rfl, ⟨U, _, rfl, SqT.of hU2, rfl, _, _, rfl, _, _, rfl, rfl, _, _, rfl, rfl, hs n i j p.2 σ' H' T U (by rw [hp, ← e]) hi hj h hT⟩⟩
end
def LcI (g : TG) (tt : TT) (te : TE) (vs : List Nat) (σ : L2.St) (Q : VK) (v : V) (H : Hp) : Prop := ∃ d o kvs, v = .ref d ∧ H d = some (.frz o (.dT kvs)) ∧ lcTail g tt te vs σ Q (ItT d o kvs) H
theorem c_items {g : TG} {tt : TT} {te : TE} {vs : List Nat} {σ : L2.St} {Q : VK} {H : Hp} {td : TE} (h : td σ H fun v H1 => LcI g tt te vs σ Q v H1) : tLc (iItemsT td) g tt te vs σ H Q := h
theorem wipe_set3 {σ : L2.St} {vs : List Nat} {s t r : Nat} {v w x : Option V} (hs : s ∈ vs) (ht : t ∈ vs) (hr : r ∈ vs) : wipe ((((wipe σ vs).set s v).set t w).set r x) vs = wipe σ vs :=
  wipe_of (by rw [List.length_set, List.length_set, List.length_set, wipe_length]) fun i hi => by
    rw [List.getElem?_set_ne (fun e => hi (by rw [← e]; exact hr)), List.getElem?_set_ne (fun e => hi (by rw [← e]; exact ht)), List.getElem?_set_ne (fun e => hi (by rw [← e]; exact hs)), wipe_get, if_neg hi]
theorem wipe_set4 {σ : L2.St} {vs : List Nat} {s t r q : Nat} {v w x y : Option V} (hs : s ∈ vs) (ht : t ∈ vs) (hr : r ∈ vs) (hq : q ∈ vs) : wipe (((((wipe σ vs).set s v).set t w).set r x).set q y) vs = wipe σ vs :=
  wipe_of (by rw [List.length_set, List.length_set, List.length_set, List.length_set, wipe_length]) fun i hi => by
    rw [List.getElem?_set_ne (fun e => hi (by rw [← e]; exact hq)), List.getElem?_set_ne (fun e => hi (by rw [← e]; exact hr)), List.getElem?_set_ne (fun e => hi (by rw [← e]; exact ht)), List.getElem?_set_ne (fun e => hi (by rw [← e]; exact hs)), wipe_get, if_neg hi]
section
variable {K : PySem.W.Frag} {Z H : Hp} {σ : L2.St} {tt : TT} {te : TE} {vs : List Nat} {Q : VK} {v : V} {kvs : HL} {s1 s2 s3 s4 : Nat} {d : Addr} {od : Obj}
/-- [z for (i, j, q), z in d.items() if test] -/
theorem k_filtI3 {a b c : Nat} (t : List Nat → Bool) (hv : v = .ref d) (hd : H d = some (.frz od (.dT (hD kvs)))) (hB : Hist (B3 a b c) kvs) (sub : Same Z H) (hn : kvs.length ≤ 1000000) (h1 : s1 ∈ vs) (h2 : s2 ∈ vs) (h3 : s3 ∈ vs) (h4 : s4 ∈ vs)
    (body : ∀ (n : Nat) i j q z Z1 H1 (R : VK) (R0 : Hp → Prop), kvs[n]? = some ([i, j, q], z) → i < a → j < b → q < c → Gr Z H Z1 H1 → (t [i, j, q] = true → ∀ Z5 H5, Gr Z1 H1 Z5 H5 → R (.int (z : Int)) H5) → (t [i, j, q] = false → ∀ Z5 H5, Gr Z1 H1 Z5 H5 → R0 H5) →
      tt (((((wipe σ vs).set s1 (some (.int (i : Int)))).set s2 (some (.int (j : Int)))).set s3 (some (.int (q : Int)))).set s4 (some (.int (z : Int)))) H1 fun b H4 => if b = true then te (((((wipe σ vs).set s1 (some (.int (i : Int)))).set s2 (some (.int (j : Int)))).set s3 (some (.int (q : Int)))).set s4 (some (.int (z : Int)))) H4 R else R0 H4)
    (fin : ∀ v Z' H', Gr Z H Z' H' → isL isN Z' v ((kvs.filter fun p => t p.1).map (·.2)) → Q v H') :
    LcI (gTup K 2 (gCons (gTup K 3 (gCons (gName s1) (gCons (gName s2) (gCons (gName s3) gNil)))) (gCons (gName s4) gNil))) tt te vs σ Q v H := by
  refine ⟨d, od, _, hv, hd, ?_⟩
  refine comp_it (M := Non) (I := fun _ => True) (q := isN) (walk_itemsT (kvs := hD kvs)) (fun i ys => ys = ((kvs.take i).filter fun p => t p.1).map (·.2)) sub (by rw [hD_len]; exact hn) (fun _ z => z.elim) Side.no True.intro (fun Z1 H1 g1 => g1.keepH hd) (by simp)
    (fun n x Z1 H1 H2 ys R R0 hi g1 _ j hy hR hR0 => ?_) (fun v Z' H' ys g' _ h j => fin v Z' H' g' (by rw [j, hD_len, List.take_length] at h; exact h))
  obtain ⟨T, U, k, w, hkv, hU, rfl, hT, rfl⟩ := hy
  obtain ⟨p, hp, rfl, rfl⟩ := hD_get hkv
  obtain ⟨i, j', q, e, hi', hj, hq⟩ := hB.all p (List.mem_of_getElem? hp)
  rw [e, kT_v] at hU
  have hU2 : (upd H1 T (.tup [.ref U, .int (p.2 : Int)])) U = some (.tup (vN [i, j', q])) := by rw [upd_ne (ne_of_none hU hT)]; exact hU
  have gT : Gr Z1 H1 Z1 (upd H1 T (.tup [.ref U, .int (p.2 : Int)])) := (Grow.refl g1.zh).alloc hT
  refine ⟨T, _, rfl, SqT.of upd_same, rfl, _, _, rfl, ⟨U, _, rfl, SqT.of hU2, rfl, _, _, rfl, _, _, rfl, _, _, rfl, rfl, _, _, rfl, rfl, wipe_set4 h1 h2 h3 h4, ?_⟩⟩
  refine body n i j' q p.2 Z1 _ R R0 (by rw [hp, ← e]) hi' hj hq (g1.trans gT) (fun ht Z5 H5 g5 => hR _ p.2 Z5 H5 (gT.trans g5) True.intro rfl ?_) (fun ht Z5 H5 g5 => hR0 Z5 H5 (gT.trans g5) True.intro ?_)
  · rw [← e] at ht
    rw [j, take_snoc hp, List.filter_append, List.map_append]
    simp [ht]
  · rw [← e] at ht
    rw [j, take_snoc hp, List.filter_append, List.map_append]
    simp [ht]
theorem k_filtI2 {a b : Nat} (t : List Nat → Bool) (hv : v = .ref d) (hd : H d = some (.frz od (.dT (hD kvs)))) (hB : Hist (B2 a b) kvs) (sub : Same Z H) (hn : kvs.length ≤ 1000000) (h1 : s1 ∈ vs) (h2 : s2 ∈ vs) (h4 : s4 ∈ vs)
    (body : ∀ (n : Nat) i j z Z1 H1 (R : VK) (R0 : Hp → Prop), kvs[n]? = some ([i, j], z) → i < a → j < b → Gr Z H Z1 H1 → (t [i, j] = true → ∀ Z5 H5, Gr Z1 H1 Z5 H5 → R (.int (z : Int)) H5) → (t [i, j] = false → ∀ Z5 H5, Gr Z1 H1 Z5 H5 → R0 H5) →
      tt ((((wipe σ vs).set s1 (some (.int (i : Int)))).set s2 (some (.int (j : Int)))).set s4 (some (.int (z : Int)))) H1 fun b H4 => if b = true then te ((((wipe σ vs).set s1 (some (.int (i : Int)))).set s2 (some (.int (j : Int)))).set s4 (some (.int (z : Int)))) H4 R else R0 H4)
    (fin : ∀ v Z' H', Gr Z H Z' H' → isL isN Z' v ((kvs.filter fun p => t p.1).map (·.2)) → Q v H') :
    LcI (gTup K 2 (gCons (gTup K 2 (gCons (gName s1) (gCons (gName s2) gNil))) (gCons (gName s4) gNil))) tt te vs σ Q v H := by
  refine ⟨d, od, _, hv, hd, ?_⟩
  refine comp_it (M := Non) (I := fun _ => True) (q := isN) (walk_itemsT (kvs := hD kvs)) (fun i ys => ys = ((kvs.take i).filter fun p => t p.1).map (·.2)) sub (by rw [hD_len]; exact hn) (fun _ z => z.elim) Side.no True.intro (fun Z1 H1 g1 => g1.keepH hd) (by simp)
    (fun n x Z1 H1 H2 ys R R0 hi g1 _ j hy hR hR0 => ?_) (fun v Z' H' ys g' _ h j => fin v Z' H' g' (by rw [j, hD_len, List.take_length] at h; exact h))
  obtain ⟨T, U, k, w, hkv, hU, rfl, hT, rfl⟩ := hy
  obtain ⟨p, hp, rfl, rfl⟩ := hD_get hkv
  obtain ⟨i, j', e, hi', hj⟩ := hB.all p (List.mem_of_getElem? hp)
  rw [e, kT_v] at hU
  have hU2 : (upd H1 T (.tup [.ref U, .int (p.2 : Int)])) U = some (.tup (vN [i, j'])) := by rw [upd_ne (ne_of_none hU hT)]; exact hU
  have gT : Gr Z1 H1 Z1 (upd H1 T (.tup [.ref U, .int (p.2 : Int)])) := (Grow.refl g1.zh).alloc hT
  refine ⟨T, _, rfl, SqT.of upd_same, rfl, _, _, rfl, ⟨U, _, rfl, SqT.of hU2, rfl, _, _, rfl, _, _, rfl, rfl, _, _, rfl, rfl, wipe_set3 h1 h2 h4, ?_⟩⟩
  refine body n i j' p.2 Z1 _ R R0 (by rw [hp, ← e]) hi' hj (g1.trans gT) (fun ht Z5 H5 g5 => hR _ p.2 Z5 H5 (gT.trans g5) True.intro rfl ?_) (fun ht Z5 H5 g5 => hR0 Z5 H5 (gT.trans g5) True.intro ?_)
  · rw [← e] at ht
    rw [j, take_snoc hp, List.filter_append, List.map_append]
    simp [ht]
  · rw [← e] at ht
    rw [j, take_snoc hp, List.filter_append, List.map_append]
    simp [ht]
end
/-- the sum of those that a test takes -/
theorem sum_filt (kvs : HL) (t : List Nat → Bool) : ((kvs.filter fun p => t p.1).map (·.2)).sum = wsum kvs (fun k => if t k = true then 1 else 0) := by
  unfold wsum
  show S (kvs.filter fun p => t p.1) (·.2) = _
  rw [S_filter]
  refine S_congr fun p _ => ?_
  by_cases h : t p.1 = true <;> simp [h]
theorem a_tupN {σ : L2.St} {H : Hp} {Q : VK} {x y z : Nat} : True := trivial
end K87

set_option autoImplicit true
set_option Elab.async false
set_option linter.all false
set_option maxRecDepth 100000
set_option maxHeartbeats 4000000
set_option pp.deepTerms.threshold 6
/-! K87D13: _counted. -/
namespace K87
open PySem L2 PySem.Spec PyProof.Rows
theorem upd_comm {H : Hp} {a b : Addr} {o u : HO} (h : a ≠ b) : upd (upd H a o) b u = upd (upd H b u) a o := by
  funext c
  unfold upd
  by_cases h1 : c = a
  · by_cases h2 : c = b
    · exact absurd (h1.symm.trans h2) h
    · rw [if_neg h2, if_pos h1, if_pos h1]
  · by_cases h2 : c = b
    · rw [if_pos h2, if_neg h1, if_pos h2]
    · rw [if_neg h2, if_neg h1, if_neg h1, if_neg h2]
/-- one cell of an output's text -/
theorem x_cell {b : Str} (hb : b ∈ AL) {c : List Nat} {k : Nat} (hl : c.length = 2) (h2 : ∀ x ∈ c, x < 2) (hk : k < 2) {H : Hp} {Q : VK} (q : ∀ z, z ∈ cs b → (cs b).idxOf z = c.getD k 0 → z = (cs b).getD (c.getD k 0) 0 → Q (.str ⟨#[z]⟩) H) : rIxS (.str (strOf b c)) (.int (k : Int)) H Q := by
  have hg : c[k]? = some (c.getD k 0) := get_of (by omega)
  have hm := al_get hb (h2 _ (List.mem_of_getElem? hg))
  refine ⟨strOf b c, _, (cs b).getD (c.getD k 0) 0, rfl, rfl, by rw [strOf_len, hl]; decide, atI_nat ?_, q _ hm.1 hm.2 rfl⟩
  rw [strOf_l, List.getElem?_map, hg]; rfl
section
local macro_rules | `(tactic| walk_at "nf") => `(tactic| try dsimp only [tSeq, tAsg, gName, tRet, tRetN, tDrop, tNext, tIfS, tTest, tB, tOp, tUn, tNil, tCons, tCB, tC, tAnd, tOr, tNot, tAndV, tOrV, tNotV, tIf, sDPut, sFld, sFldAug, tM0, tM1, tBM, tBM0, tMeth, tCall, sGPut, tGGet, tGNin, tDGet, tDNotIn, tDIn, tFld, tChain])
local macro_rules | `(tactic| walk_at "st") => `(tactic| try dsimp only [wipe, List.set_cons_zero, List.set_cons_succ])
variable {P : Program} {w : World} {K : PySem.W.Frag} {mg : Str → Option Value} {base : Heap}
def spCounted (CM CA : Addr) : Sp := fun vs H Q _ => ∃ (Z : Hp) (vm va : V) (d : Addr) (a b : Str) (M : Mach) (A : Aut) (kvs : HL), vs = [vm, va, .ref d] ∧ Same Z H ∧ isMach CM a b Z vm M ∧ isAut CA Z va A ∧ a ∈ AL ∧ b ∈ AL ∧ MOk M ∧ A.Ok 2 ∧ A.rows.length ≤ 10000 ∧ Z d = none ∧ H d = some (.dT (hD kvs)) ∧
  Hist (B3 M.left.length M.right.length A.rows.length) kvs ∧
  ∀ d' Z' H' kvs', Gr Z H Z' H' → H d' = none → Z' d' = none → H' d' = some (.dT (hD kvs')) → Hist (B3 M.left.length M.right.length A.rows.length) kvs' → (∀ f, wsum kvs' f = wsum kvs (stepF M A f)) → Q (.ref d') H'
abbrev N__counted : List Str := ["machine", "automaton", "counts", "found", "i", "j", "q", "count", "other", "k", "letter", "state"]
theorem sc__counted : FnScope N__counted ["machine", "automaton", "counts"] (defScope (top 38)) := ⟨rfl, rfl, rfl, by decide +kernel, rfl, by decide +kernel, by decide +kernel⟩
theorem ok__counted (T : Txt K mg) : FnOk P w K mg base CX0 1 T.d__counted.f T.d__counted.fd ["machine", "automaton", "counts"] (spCounted T.c_Machine.C T.c_Automaton.C) := by
  refine T.d__counted.fn.ok sc__counted (fun vs H Q E h => ?_) (fun cdv A outer s H vs Q E hr h => ?_)
  · obtain ⟨Z, vm, va, d, a, b, M, A, kvs, rfl, _⟩ := h
    rfl
  · obtain ⟨Z, vm, va, d, a, b, M, B, kvs, rfl, sub, hM, hA, ha, hb, mo, okA, few, zd, hd, hist, kk⟩ := h
    have hu := hu_of hr
    refine ⟨_, pss_cons (ps_set (i := 3) sc__counted.nd rfl (.inl rfl) (pe_dnewT))
  (pss_cons (ps_lock (ps_for PassesOwn.never rfl (pi_itemsT (pv 2)) (pg_tupK (n := 2) K rfl rfl (pgs_cons (pg_tupK (n := 3) K rfl rfl (pgs_cons (pg_name (i := 4) sc__counted.nd rfl (.inl rfl) (.inl rfl)) (pgs_cons (pg_name (i := 5) sc__counted.nd rfl (.inl rfl) (.inl rfl)) (pgs_cons (pg_name (i := 6) sc__counted.nd rfl (.inl rfl) (.inl rfl)) pgs_nil)))) (pgs_cons (pg_name (i := 7) sc__counted.nd rfl (.inl rfl) (.inl rfl)) pgs_nil)))
  (pss_one (ps_for PassesOwn.never rfl (pi_range1 (by rfl) T.b_range (pa_cons (pe_callB (call_len_seqK K rfl) (by rfl) T.b_len (by decide +kernel) (pa_cons (pe_fldK K rfl (pv 0) rfl) pa_nil)) pa_nil)) (pg_name (i := 8) sc__counted.nd rfl (.inl rfl) (.inl rfl))
  (pss_one (ps_for PassesOwn.never rfl (pi_range1 (by rfl) T.b_range (pa_cons (pe_callB call_len_str (by rfl) T.b_len (by decide +kernel) (pa_cons (pe_fldK K rfl (pv 0) rfl) pa_nil)) pa_nil)) (pg_name (i := 9) sc__counted.nd rfl (.inl rfl) (.inl rfl))
  (pss_one (ps_if (pt_cmpR op_eq (pe_ix (ix_listK K rfl) (pe_ix (ix_listK K rfl) (pe_fldK K rfl (pv 0) rfl) (pv 8) (fun _ _ => rfl)) (pv 9) (fun _ _ => rfl)) (pv 5) (nomark _))
  (pss_cons (ps_set (i := 10) sc__counted.nd rfl (.inl rfl) (pe_m1 PySem.F.slot_str_index PySem.F.type_str_index mt_sindex (pe_fldK K rfl (pv 0) rfl) (pe_ix ix_str (pe_ix (ix_listK K rfl) (pe_ix (ix_listK K rfl) (pe_fldK K rfl (pv 0) rfl) (pv 4) (fun _ _ => rfl)) (pv 8) (fun _ _ => rfl)) (pv 9) (fun _ _ => rfl))))
  (pss_cons (ps_set (i := 11) sc__counted.nd rfl (.inl rfl) (pe_tup (pa_cons (pe_ix (ix_listK K rfl) (pe_ix (ix_listK K rfl) (pe_fldK K rfl (pv 0) rfl) (pv 4) (fun _ _ => rfl)) (pv 9) (fun _ _ => rfl)) (pa_cons (pv 8) (pa_cons (pe_ix (ix_listK K rfl) (pe_ix (ix_listK K rfl) (pe_fldK K rfl (pv 1) rfl) (pv 6) (fun _ _ => rfl)) (pv 10) (fun _ _ => rfl)) pa_nil)))))
  (pss_one (ps_dput hu (pv 3) (pv 11) (pe_op op_add (pe_dget2 hu (pv 3) (pv 11) (pe_int) ⟨rfl, rfl, rfl, rfl⟩) (pv 7)) rfl))))
  (pss_nil)))))))))
  (pss_one (ps_ret (pv 3)))), ?_⟩
    obtain ⟨xm, dxm, vl, vr, vt, rfl, hx, hl, hr', ht⟩ := hM
    obtain ⟨xa, dxa, wr, wa, rfl, hxa, hwr, hwa⟩ := hA
    have ll := mo.l40
    have lr := mo.r40
    have ha2 := (al_two a ha).2.1
    have mok := mo.ok
    have cap : ∀ {kv : HL}, Hist (B3 M.left.length M.right.length B.rows.length) kv → kv.length ≤ 1000000 := fun h => by
      have h1 := h.few3
      have h2 : M.left.length * M.right.length * B.rows.length ≤ 3 * 3 * 10000 := Nat.mul_le_mul (Nat.mul_le_mul ll lr) few
      omega
    walk_at "nf"
    -- found = {}
    intro fd hfd
    have ndf : d ≠ fd := ne_of_none hd hfd
    refine ⟨d, .dT (hD kvs), by rw [upd_ne ndf]; exact hd, True.intro, fun od => ?_⟩
    rw [upd_comm ndf.symm]
    have sub1 : Same Z (upd H d (.frz od (.dT (hD kvs)))) := same_lock sub zd
    have hfd1 : (upd H d (.frz od (.dT (hD kvs)))) fd = none := by rw [upd_ne ndf.symm]; exact hfd
    have g0 : Gr Z (upd H d (.frz od (.dT (hD kvs)))) Z _ := (Grow.refl sub1).alloc (o := .dT []) hfd1
    -- for (i, j, q), count in counts.items()
    refine f_items ⟨_, rfl, k_forI3 (K := K) rfl (g0.keepH upd_same) hist (fun n σ Hc => ∃ Z1 kv e4 e5 e6 e7 e8 e9 e10 e11, σ = [some (.ref xm), some (.ref xa), some (.ref d), some (.ref fd), e4, e5, e6, e7, e8, e9, e10, e11] ∧ Gr Z (upd H d (.frz od (.dT (hD kvs)))) Z1 Hc ∧ Z1 fd = none ∧ Hc fd = some (.dT (hD kv)) ∧
        Hist (B3 M.left.length M.right.length B.rows.length) kv ∧ ∀ f, wsum kv f = wsum (kvs.take n) (stepF M B f))
      ⟨Z, [], none, none, none, none, none, none, none, none, rfl, g0, sub.free hfd, upd_same, Hist.nil, fun f => rfl⟩ (fun n σ Hc ⟨_, _, _, _, _, _, _, _, _, _, _, g, _⟩ => g.keepH upd_same) ?_ ?_⟩
    · rintro n i j q z σ Hc Tp U hn hi hj hq ⟨Z1, kv, e4, e5, e6, e7, e8, e9, e10, e11, rfl, g, zf, hf, hist', hw⟩ hTp
      have tk := take_snoc hn
      have g := g.alloc (o := .tup [.ref U, .int (z : Int)]) hTp
      have hf : (upd Hc Tp (.tup [.ref U, .int (z : Int)])) fd = some (.dT (hD kv)) := by rw [upd_ne (ne_of_none hf hTp)]; exact hf
      generalize hHc : upd Hc Tp (.tup [.ref U, .int (z : Int)]) = Hc1 at g hf
      walk_at "nf"
      -- for other in range(len(machine.right))
      refine f_range ?_
      walk_at "nf"
      refine ⟨_, rfl, xm, _, dxm, _, vr, rfl, g.zh _ _ (g.z _ _ hx), T.c_Machine.cl, T.n_Machine_right, rfl, x_len (Mono.mono g.z hr') g.zh rfl ?_⟩
      refine k_forR (n := (M.right.length : Int)) rfl (by omega) (by omega) (fun o σ Hc => ∃ Z1 kv e8 e9 e10 e11, σ = [some (.ref xm), some (.ref xa), some (.ref d), some (.ref fd), some (.int (i : Int)), some (.int (j : Int)), some (.int (q : Int)), some (.int (z : Int)), e8, e9, e10, e11] ∧ Gr Z (upd H d (.frz od (.dT (hD kvs)))) Z1 Hc ∧ Z1 fd = none ∧ Hc fd = some (.dT (hD kv)) ∧
          Hist (B3 M.left.length M.right.length B.rows.length) kv ∧ ∀ f, wsum kv f = wsum (kvs.take n) (stepF M B f) + z * S (List.range o) fun o => S (List.range 2) fun k => if nx M.right o k = j then f [nx M.left i k, o, nx B.rows q (M.tb i o k)] else 0)
        ⟨Z1, kv, _, _, _, _, rfl, g, zf, hf, hist', fun f => by rw [hw, List.range_zero, S_nil, Nat.mul_zero, Nat.add_zero]⟩ ?_ ?_
      · rintro o σ Hc ho ⟨Z1, kv, e8, e9, e10, e11, rfl, g, zf, hf, hist', hw⟩
        have ho' : o < M.right.length := by omega
        walk_at "nf"
        refine f_range ?_
        walk_at "nf"
        refine ⟨_, rfl, xm, _, dxm, _, _, rfl, g.zh _ _ (g.z _ _ hx), T.c_Machine.cl, T.n_Machine_reads, rfl, a, rfl, by rw [ha2]; decide, ?_⟩
        rw [ha2]
        refine k_forR (n := ((2 : Nat) : Int)) rfl (by decide) (by decide) (fun k σ Hc => ∃ Z1 kv e9 e10 e11, σ = [some (.ref xm), some (.ref xa), some (.ref d), some (.ref fd), some (.int (i : Int)), some (.int (j : Int)), some (.int (q : Int)), some (.int (z : Int)), some (.int (o : Int)), e9, e10, e11] ∧ Gr Z (upd H d (.frz od (.dT (hD kvs)))) Z1 Hc ∧ Z1 fd = none ∧ Hc fd = some (.dT (hD kv)) ∧
            Hist (B3 M.left.length M.right.length B.rows.length) kv ∧ ∀ f, wsum kv f = wsum (kvs.take n) (stepF M B f) + z * (S (List.range o) fun o => S (List.range 2) fun k => if nx M.right o k = j then f [nx M.left i k, o, nx B.rows q (M.tb i o k)] else 0) + z * S (List.range k) fun k => if nx M.right o k = j then f [nx M.left i k, o, nx B.rows q (M.tb i o k)] else 0)
          ⟨Z1, kv, _, _, _, rfl, g, zf, hf, hist', fun f => by rw [hw, List.range_zero, S_nil, Nat.mul_zero, Nat.add_zero]⟩ ?_ ?_
        · rintro k σ Hc hk ⟨Z1, kv, e9, e10, e11, rfl, g, zf, hf, hist', hw⟩
          have hk' : k < 2 := by omega
          have hrow : M.right[o]? = some (M.right.getD o []) := get_of ho'
          have mrow := List.mem_of_getElem? hrow
          have hcell : (M.right.getD o [])[k]? = some (nx M.right o k) := get_of (by rw [mok.right.len _ mrow]; exact hk')
          walk_at "nf"
          refine ⟨_, rfl, xm, _, dxm, _, _, rfl, g.zh _ _ (g.z _ _ hx), T.c_Machine.cl, T.n_Machine_right, rfl, _, rfl, x_ix (Mono.mono g.z hr') g.zh hrow fun w1 h1 => ⟨_, rfl, x_ix h1 g.zh hcell fun w2 h2 => ?_⟩⟩
          obtain rfl : w2 = .int ((nx M.right o k : Nat) : Int) := h2
          refine ⟨_, rfl, rfl, _, rfl, ?_⟩
          by_cases hjk : nx M.right o k = j
          · refine ifY (by rw [hjk]; exact decide_eq_true rfl) ?_
            have htrow : M.table[i]? = some (M.table.getD i []) := get_of (by rw [mok.tlen]; exact hi)
            have mtrow := List.mem_of_getElem? htrow
            have htc : (M.table.getD i [])[o]? = some ((M.table.getD i []).getD o []) := get_of (by rw [mok.trow _ mtrow]; exact ho')
            obtain ⟨hc2, hcb⟩ := mok.tcell _ mtrow _ (List.mem_of_getElem? htc)
            have hlrow : M.left[i]? = some (M.left.getD i []) := get_of hi
            have hlc : (M.left.getD i [])[k]? = some (nx M.left i k) := get_of (by rw [mok.left.len _ (List.mem_of_getElem? hlrow)]; exact hk')
            have hqrow : B.rows[q]? = some (B.rows.getD q []) := get_of hq
            have htb := mok.tb hi ho' hk'
            have hqc : (B.rows.getD q [])[M.tb i o k]? = some (nx B.rows q (M.tb i o k)) := get_of (by rw [okA.rows.len _ (List.mem_of_getElem? hqrow)]; exact htb)
            -- letter
            refine ⟨_, rfl, xm, _, dxm, _, _, rfl, g.zh _ _ (g.z _ _ hx), T.c_Machine.cl, T.n_Machine_writes, rfl, ⟨b, rfl⟩, _, rfl, xm, _, dxm, _, _, rfl, g.zh _ _ (g.z _ _ hx), T.c_Machine.cl, T.n_Machine_table, rfl, _, rfl, x_ix (Mono.mono g.z ht) g.zh htrow fun w3 h3 => ⟨_, rfl, x_ix h3 g.zh htc fun w4 h4 => ⟨_, rfl, ?_⟩⟩⟩
            obtain rfl : w4 = .str (strOf b ((M.table.getD i []).getD o [])) := h4
            refine x_cell hb hc2 hcb hk' fun y my ey _ => ⟨b, ⟨#[y]⟩, _, [], rfl, rfl, al_idx b hb y my, ?_⟩
            have ey' : ((cs b).idxOf y : Nat) = M.tb i o k := ey
            rw [ey']
            -- state
            refine a_tup3 ?_
            walk_at "nf"
            refine ⟨_, rfl, xm, _, dxm, _, _, rfl, g.zh _ _ (g.z _ _ hx), T.c_Machine.cl, T.n_Machine_left, rfl, _, rfl, x_ix (Mono.mono g.z hl) g.zh hlrow fun w5 h5 => ⟨_, rfl, x_ix h5 g.zh hlc fun w6 h6 => ?_⟩⟩
            obtain rfl : w6 = .int ((nx M.left i k : Nat) : Int) := h6
            refine ⟨_, rfl, _, rfl, xa, _, dxa, _, _, rfl, g.zh _ _ (g.z _ _ hxa), T.c_Automaton.cl, T.n_Automaton_rows, rfl, _, rfl, x_ix (Mono.mono g.z hwr) g.zh hqrow fun w7 h7 => ⟨_, rfl, x_ix h7 g.zh hqc fun w8 h8 => ?_⟩⟩
            obtain rfl : w8 = .int ((nx B.rows q (M.tb i o k) : Nat) : Int) := h8
            refine x_tupZ (Z := Z1) g.zh (by show 3 ≤ 1000; decide) fun t Z2 H2 g2 ht2 => ?_
            have hf2 := g2.keepH hf
            have zf2 := g2.keepZ zf hf
            have htk : ∀ {H3 : Hp}, Same Z2 H3 → H3 t = some (.tup ((kT [nx M.left i k, o, nx B.rows q (M.tb i o k)]).map kV)) := fun s => by rw [kT_v]; exact s _ _ ht2
            -- found[state] = found.get(state, 0) + count
            refine ⟨_, rfl, fd, rfl, .inr ⟨_, Rd.of hf2⟩, _, rfl, _, DGet.t hf2 (htk g2.zh), ?_⟩
            rw [hD_getD]
            refine ⟨_, rfl, _, _, rfl, rfl, _, rfl, _, rfl, fd, _, rfl, DPut.t hf2 (htk g2.zh) (sz6' (by rw [hD_len]; exact cap hist')), ?_⟩
            have ep := hD_put kv [nx M.left i k, o, nx B.rows q (M.tb i o k)] z
            rw [Int.natCast_add] at ep
            rw [ep]
            refine ⟨Z2, addK kv [nx M.left i k, o, nx B.rows q (M.tb i o k)] z, _, _, _, rfl, (g.trans g2).mut (.inl hfd1) zf2 hf2, zf2, upd_same, hist'.add ⟨_, _, _, rfl, mok.left.nx hi hk', ho', okA.rows.nx hq htb⟩ z, fun f => ?_⟩
            rw [wsum_add _ _ hist'.nd, hw, S_range_succ, if_pos hjk, Nat.mul_add]
            omega
          · refine ifN (decide_eq_false fun e => hjk (by injection e with e; omega)) ⟨Z1, kv, _, _, _, rfl, g, zf, hf, hist', fun f => ?_⟩
            rw [hw, S_range_succ, if_neg hjk, Nat.add_zero]
        · rintro σ Hc ⟨Z1, kv, e9, e10, e11, rfl, g, zf, hf, hist', hw⟩
          refine ⟨Z1, kv, _, _, _, _, rfl, g, zf, hf, hist', fun f => ?_⟩
          rw [hw, S_range_succ, Nat.mul_add]
          show _ + z * S (List.range 2) _ = _
          omega
      · rintro σ Hc ⟨Z1, kv, e8, e9, e10, e11, rfl, g, zf, hf, hist', hw⟩
        refine ⟨Z1, kv, _, _, _, _, _, _, _, _, rfl, g, zf, hf, hist', fun f => ?_⟩
        rw [hw, tk, wsum_append, wsum_cons, wsum_nil, Nat.add_zero]
        rfl
    · rintro σ Hc ⟨Z1, kv, e4, e5, e6, e7, e8, e9, e10, e11, rfl, g, zf, hf, hist', hw⟩
      rw [List.take_length] at hw
      obtain ⟨g1, hlk, z1⟩ := Grow.unlock g hd zd
      refine ⟨hlk, ?_⟩
      walk_at "nf"
      exact ⟨_, rfl, kk fd Z1 _ kv g1 hfd zf (by rw [upd_ne ndf.symm]; exact hf) hist' hw⟩
end
end K87

set_option autoImplicit true
set_option Elab.async false
set_option linter.all false
set_option maxRecDepth 100000
set_option maxHeartbeats 4000000
set_option pp.deepTerms.threshold 6
/-! K87D14: count_outputs. -/
namespace K87
open PySem L2 PySem.Spec PyProof.Rows
/-- {key of j: 1 for j in range(n)}, the keys tuples of numbers -/
theorem k_dcR {Z H : Hp} {σ : L2.St} {vs : List Nat} {Q : VK} {s n : Nat} {us : List V} {tk tv : TE} (kF : Nat → List Nat) (inj : ∀ i j, kF i = kF j → i = j) (hv : us = [.int (n : Int)]) (sub : Same Z H) (hn : n ≤ 1000000) (hs : s ∈ vs)
    (body : ∀ i Z1 H1 (R : V → V → Hp → Prop), i < n → Gr Z H Z1 H1 → (∀ t Z2 H2, Gr Z1 H1 Z2 H2 → Z2 t = some (.tup (vN (kF i))) → R (.ref t) (.int 1) H2) → tk ((wipe σ vs).set s (some (.int (i : Int)))) H1 fun y H2 => tv ((wipe σ vs).set s (some (.int (i : Int)))) H2 fun z H3 => R y z H3)
    (fin : ∀ D Z' H', Gr Z H Z' H' → H D = none → Z' D = none → H' D = some (.dT (hD ((List.range n).map fun j => (kF j, 1)))) → Q (.ref D) H') :
    DcR (.dT []) stoT (gName s) tYes tk tv vs σ Q us H := by
  refine ⟨n, hv, by omega, by omega, ?_⟩
  refine dcomp_it (walk_range (lo := 0) (n := ((n : Nat) : Int).toNat)) (fun i o => o = .dT (hD ((List.range i).map fun j => (kF j, 1)))) sub (fun _ _ _ => True.intro) rfl (fun i x Z1 H1 H2 D o R R0 hi g1 hDD zD dv hy hR hR0 => ?_)
    (fun D Z' H' o g hD0 zD hD' dv => fin D Z' H' g hD0 zD (by rw [hD', dv]; rfl))
  obtain ⟨rfl, rfl⟩ := (show H2 = H1 ∧ x = .int (0 + (i : Int)) from hy)
  rw [Int.zero_add]
  subst dv
  have hin : i < n := by omega
  refine ⟨wipe_set1 hs, a_yes (ifY rfl ?_)⟩
  refine body i Z1 H2 R hin g1 fun t Z2 H3 g2 ht => hR _ _ Z2 H3 g2 fun N hN => ?_
  have hD3 := g2.keepH hDD
  refine ⟨_, kT (kF i), t, rfl, hD3, by rw [kT_v]; exact g2.zh _ _ ht, sz6' (by rw [hD_len, List.length_map, List.length_range]; omega), hN _ ?_⟩
  have no : has ((List.range i).map fun j => (kF j, 1)) (kF i) ≠ true := fun h => by
    rw [has_iff, List.map_map] at h
    obtain ⟨j, hj, e⟩ := List.mem_map.mp h
    have := inj _ _ e
    have := List.mem_range.mp hj
    omega
  have hv : valV (hD ((List.range i).map fun j => (kF j, 1))) (kT (kF i)) = none := by rw [hD_val, if_neg no]
  rw [putK_new _ hv, List.range_succ, List.map_append]
  unfold hD
  rw [List.map_append]; rfl
section
local macro_rules | `(tactic| walk_at "nf") => `(tactic| try dsimp only [tSeq, tAsg, gName, tRet, tRetN, tDrop, tNext, tIfS, tTest, tB, tOp, tUn, tNil, tCons, tCB, tC, tAnd, tOr, tNot, tAndV, tOrV, tNotV, tIf, sDPut, sFld, sFldAug, tM0, tM1, tBM, tBM0, tMeth, tCall, sGPut, tGGet, tGNin, tDGet, tDNotIn, tDIn, tFld, tChain])
local macro_rules | `(tactic| walk_at "st") => `(tactic| try dsimp only [wipe, List.set_cons_zero, List.set_cons_succ])
variable {P : Program} {w : World} {K : PySem.W.Frag} {mg : Str → Option Value} {base : Heap}
theorem range_hist {n : Nat} {B : List Nat → Prop} {kF : Nat → List Nat} (inj : ∀ i j, kF i = kF j → i = j) (h : ∀ j, j < n → B (kF j)) : Hist B ((List.range n).map fun j => (kF j, 1)) := by
  refine ⟨?_, fun p hp => ?_⟩
  · rw [List.map_map]
    exact nodup_map_on List.nodup_range fun x _ y _ e => inj x y e
  · obtain ⟨j, hj, rfl⟩ := List.mem_map.mp hp
    exact h j (List.mem_range.mp hj)
theorem range_wsum {n : Nat} {kF : Nat → List Nat} (f : List Nat → Nat) : wsum ((List.range n).map fun j => (kF j, 1)) f = S (List.range n) fun j => f (kF j) := by
  unfold wsum
  rw [S_map]
  exact S_congr fun j _ => Nat.one_mul _
def spCO (CM CP CN : Addr) : Sp := fun vs H Q _ => ∃ (Z : Hp) (vm vp : V) (n : Nat) (a b : Str) (M : Mach) (N : Net), vs = [vm, vp, .int (n : Int)] ∧ Same Z H ∧ isMach CM a b Z vm M ∧ isPat CP CN b Z vp N ∧ a ∈ AL ∧ b ∈ AL ∧ MOk M ∧ N.Ok ∧ n ≤ 1000 ∧
  ∀ Z' H', Gr Z H Z' H' → Q (.int ((cnt M N.desc n : Nat) : Int)) H'
abbrev N_count_outputs : List Str := ["machine", "pattern", "length", "automaton", "counts", "j", "turn", "i", "q", "count"]
theorem sc_count_outputs : FnScope N_count_outputs ["machine", "pattern", "length"] (defScope (top 39)) := ⟨rfl, rfl, rfl, by decide +kernel, rfl, by decide +kernel, by decide +kernel⟩
theorem ok_count_outputs (T : Txt K mg) : FnOk P w K mg base CX0 6 T.d_count_outputs.f T.d_count_outputs.fd ["machine", "pattern", "length"] (spCO T.c_Machine.C T.c_Pattern.C T.c_Network.C) := by
  refine T.d_count_outputs.fn.ok sc_count_outputs (fun vs H Q E h => ?_) (fun cdv A outer s H vs Q E hr h => ?_)
  · obtain ⟨Z, vm, vp, n, a, b, M, N, rfl, _⟩ := h
    rfl
  · obtain ⟨Z, vm, vp, n, a, b, M, N, rfl, sub, hM, hP, ha, hb, mo, okN, hn, kk⟩ := h
    have hu := hu_of hr
    refine ⟨_, pss_cons (ps_set (i := 3) sc_count_outputs.nd rfl (.inr rfl) (pe_call (ok__automaton T) (hr.mono (by decide)) (by rfl) T.d__automaton.mg T.d__automaton.fn.kp T.d__automaton.b .nil pass0 (pa_cons (pv 1) pa_nil)))
  (pss_cons (ps_setDg (i := 4) dcT_new (dcT_sto hu) (own := [("j", 5)]) rfl sc_count_outputs.nd (pi_range1 (by rfl) T.b_range (pa_cons (pe_callB (call_len_seqK K rfl) (by rfl) T.b_len (by decide +kernel) (pa_cons (pe_fldK K rfl (pv 0) rfl) pa_nil)) pa_nil)) (blkOk_by (N := N_count_outputs) (sc := defScope (top 39)) (by decide +kernel)) (fun _ _ _ _ _ => pg_name (i := 5) sc_count_outputs.nd rfl (.inl rfl) (.inr rfl)) (fun _ _ _ _ _ => pts_nil) (fun _ _ _ _ _ => pe_tup (pa_cons (pe_int) (pa_cons (pv 5) (pa_cons (pe_int) pa_nil)))) (fun _ _ _ _ _ => pe_int) rfl rfl (sw_trueD rfl rfl rfl (by decide +kernel)))
  (pss_cons (ps_for PassesOwn.never rfl (pi_range1 (by rfl) T.b_range (pa_cons (pv 2) pa_nil)) (pg_name (i := 6) sc_count_outputs.nd rfl (.inl rfl) (.inl rfl))
  (pss_one (ps_set (i := 4) sc_count_outputs.nd rfl (.inl rfl) (pe_call (ok__counted T) (hr.mono (by decide)) (by rfl) T.d__counted.mg T.d__counted.fn.kp T.d__counted.b .nil pass0 (pa_cons (pv 0) (pa_cons (pv 3) (pa_cons (pv 4) pa_nil)))))))
  (pss_one (ps_ret (pe_callB (cr_sumK K rfl rfl) (by rfl) T.b_sum (by decide +kernel) (pa_cons (pe_lc (own := [("count", 9), ("i", 7), ("j", 5), ("q", 8)]) rfl sc_count_outputs.nd (pi_itemsT (pe_lockV (pv 4))) (blkOk_by (N := N_count_outputs) (sc := defScope (top 39)) (by decide +kernel)) (fun _ _ _ _ _ => pg_tupK (n := 2) K rfl rfl (pgs_cons (pg_tupK (n := 3) K rfl rfl (pgs_cons (pg_name (i := 7) sc_count_outputs.nd rfl (.inl rfl) (.inr rfl)) (pgs_cons (pg_name (i := 5) sc_count_outputs.nd rfl (.inl rfl) (.inr rfl)) (pgs_cons (pg_name (i := 8) sc_count_outputs.nd rfl (.inl rfl) (.inr rfl)) pgs_nil)))) (pgs_cons (pg_name (i := 9) sc_count_outputs.nd rfl (.inl rfl) (.inr rfl)) pgs_nil))) (fun _ _ _ _ _ => pts_one (PW.pt (pw_and (pt_cmpR op_eq (pv 5) (pe_int) (nomark _)) (pw_and1 (pt_val (pe_ix (ix_listK K rfl) (pe_fldK K rfl (pv 3) rfl) (pv 8) (fun _ _ => rfl))))))) (fun _ _ _ _ _ => pv 9)) pa_nil)))))), ?_⟩
    obtain ⟨xm, dxm, vl, vr, vt, rfl, hx, hl, hr', ht⟩ := id hM
    have ll := mo.l40
    have lr := mo.r40
    walk_at "nf"
    -- automaton
    refine ⟨_, rfl, Z, vp, b, N, rfl, sub, hP, okN, hb, fun va Z1 H1 B g1 hA okA few hasB => ?_⟩
    -- counts
    refine d_rangeT ?_
    walk_at "nf"
    refine ⟨_, rfl, xm, _, dxm, _, vr, rfl, g1.zh _ _ (g1.z _ _ hx), T.c_Machine.cl, T.n_Machine_right, rfl, x_len (Mono.mono g1.z hr') g1.zh rfl ?_⟩
    refine k_dcR (n := M.right.length) (fun j => [0, j, 0]) (fun i j e => by injection e with _ e; injection e) rfl g1.zh (by omega) (by decide) (fun j Z2 H2 R hj g2 hR => ?_) (fun d Z2 H2 g2 hd0 zd hd => ?_)
    · refine a_tup3 (t_C ⟨_, rfl, t_C (x_tupZ g2.zh (by show 3 ≤ 1000; decide) fun t Z3 H3 g3 ht3 => hR t Z3 H3 g3 ht3)⟩)
    have g2 := g1.trans g2
    have hd0' : H d = none := g1.free hd0
    -- for turn in range(length)
    refine f_range ?_
    walk_at "nf"
    refine ⟨_, rfl, ?_⟩
    refine k_forR (n := (n : Int)) rfl (by omega) (by omega) (fun t σ Hc => ∃ d Z3 kvs e5 e6 e7 e8 e9, σ = [some (.ref xm), some vp, some (.int (n : Int)), some va, some (.ref d), e5, e6, e7, e8, e9] ∧ Gr Z H Z3 Hc ∧ isAut T.c_Automaton.C Z3 va B ∧ H d = none ∧ Z3 d = none ∧ Hc d = some (.dT (hD kvs)) ∧
        Hist (B3 M.left.length M.right.length B.rows.length) kvs ∧ ∀ f, wsum kvs f = fwd M B t f)
      ⟨d, Z2, _, none, none, none, none, none, rfl, g2, Mono.mono (by assumption : Gr Z1 H1 Z2 H2).z hA, hd0', zd, hd, range_hist (fun i j e => by injection e with _ e; injection e) (fun j hj => ⟨0, j, 0, rfl, mo.ok.left.pos, hj, okA.rows.pos⟩), fun f => by rw [range_wsum, fwd_zero]⟩ ?_ ?_
    · rintro t σ Hc ht ⟨d, Z3, kvs, e5, e6, e7, e8, e9, rfl, g3, hA3, hd0, zd, hd, hist, hw⟩
      walk_at "nf"
      refine ⟨_, rfl, _, rfl, _, rfl, Z3, _, va, d, a, b, M, B, kvs, rfl, g3.zh, Mono.mono g3.z hM, hA3, ha, hb, mo, okA, few, zd, hd, hist, fun d' Z4 H4 kvs' g4 hd0' zd' hd' hist' hw' => ?_⟩
      exact ⟨d', Z4, kvs', _, _, _, _, _, rfl, g3.trans g4, Mono.mono g4.z hA3, g3.free hd0', zd', hd', hist', fun f => by rw [hw', hw, fwd_step mo.ok]⟩
    · rintro σ Hc ⟨d, Z3, kvs, e5, e6, e7, e8, e9, rfl, g3, hA3, hd0, zd, hd, hist, hw⟩
      have hw' : ∀ f, wsum kvs f = fwd M B n f := hw
      walk_at "nf"
      obtain ⟨xa, dxa, wr, wa, rfl, hxa, hwr, hwa⟩ := hA3
      have cap : kvs.length ≤ 1000000 := by
        have h1 := hist.few3
        have h2 : M.left.length * M.right.length * B.rows.length ≤ 3 * 3 * 10000 := Nat.mul_le_mul (Nat.mul_le_mul ll lr) few
        omega
      refine c_items ⟨_, rfl, d, .dT (hD kvs), rfl, hd, True.intro, fun od => ?_⟩
      have g4 := g3.mut (o := .frz od (.dT (hD kvs))) (.inl hd0) zd hd
      refine k_filtI3 (K := K) (fun key => decide (key.getD 1 0 = 0) && B.acc.getD (key.getD 2 0) false) rfl upd_same hist g4.zh cap (by decide) (by decide) (by decide) (by decide) (fun m i j q z Z5 H5 R R0 hm hi hj hq g5 hR hR0 => ?_) (fun v Z' H' g' hv => ?_)
      · have hacc : B.acc[q]? = some (B.acc.getD q false) := get_of (by rw [okA.len]; exact hq)
        have go : ∀ (c : Bool), c = (decide (j = 0) && B.acc.getD q false) → if c = true then tVar 9 (((((wipe [some (.ref xm), some vp, some (.int (n : Int)), some (.ref xa), some (.ref d), e5, e6, e7, e8, e9] [9, 7, 5, 8]).set 7 (some (.int (i : Int)))).set 5 (some (.int (j : Int)))).set 8 (some (.int (q : Int)))).set 9 (some (.int (z : Int)))) H5 R else R0 H5 := by
          intro c hc
          cases c with
          | true => exact ifY rfl ⟨_, rfl, hR hc.symm Z5 H5 (Grow.refl g5.zh)⟩
          | false => exact ifN rfl (hR0 hc.symm Z5 H5 (Grow.refl g5.zh))
        refine ⟨_, rfl, rfl, _, rfl, ?_⟩
        by_cases hj0 : j = 0
        · refine ifY (by rw [hj0]; rfl) ⟨_, rfl, xa, _, dxa, _, _, rfl, g5.zh _ _ (g5.z _ _ hxa), T.c_Automaton.cl, T.n_Automaton_accepts, rfl, _, rfl, x_ix (Mono.mono g5.z hwa) g5.zh hacc fun w6 h6 => ?_⟩
          obtain rfl : w6 = .bl (B.acc.getD q false) := h6
          exact ⟨_, rfl, go _ (by simp [hj0])⟩
        · exact ifN (decide_eq_false fun e => hj0 (by injection e with e; omega)) (go false (by simp [hj0]))
      · refine x_sum hv g'.zh ?_
        have e0 := sum_filt kvs (fun key => decide (key.getD 1 0 = 0) && B.acc.getD (key.getD 2 0) false)
        rw [hw'] at e0
        have e1 : (fun k : List Nat => if (decide (k.getD 1 0 = 0) && B.acc.getD (k.getD 2 0) false) = true then 1 else 0) = fun key : List Nat => if key.getD 1 0 = 0 ∧ B.acc.getD (key.getD 2 0) false = true then 1 else 0 := by
          funext k
          simp only [Bool.and_eq_true, decide_eq_true_eq]
        rw [e1, fwd_end mo.ok, cnt_congr mo.ok hasB] at e0
        exact Eq.mpr (congrArg (fun m : Nat => Q (V.int (m : Int)) H') e0) (kk Z' H' (g4.trans g'))
end
end K87

set_option autoImplicit true
set_option Elab.async false
set_option linter.all false
set_option maxRecDepth 100000
set_option maxHeartbeats 4000000
set_option pp.deepTerms.threshold 6
/-! K87D15: _into, _ways, count_preimages. -/
namespace K87
open PySem L2 PySem.Spec PyProof.Rows
def Lc2T (g : TG) (tt : TT) (wi1 : TI) (g1 : TG) (tt1 : TT) (te : TE) (vs vs1 : List Nat) (σ : L2.St) (Q : VK) (J : It) (H1 : Hp) : Prop := ∀ D, H1 D = none → ∃ W : Nat → Nat → Hp → Prop, (∃ m, W 0 m (upd H1 D (.lst []))) ∧ ∀ i m H, W i m H →
  (J.stop i H ∧ Q (.ref D) H) ∨ (J.go i H ∧ ∃ Nx : Hp → Prop, (∀ H', Nx H' → ∃ m', m' < m ∧ W (i + 1) m' H') ∧ ∀ x H', J.yld i H x H' → g x (wipe σ vs) H' fun σ2 H2 => wipe σ2 vs = wipe σ vs ∧ tt σ2 H2 fun b H3 =>
    if b = true then wi1 σ2 H3 fun J1 H4 => ∃ W1 : Nat → Nat → Hp → Prop, (∃ m, W1 0 m H4) ∧ ∀ j k H, W1 j k H →
      (J1.stop j H ∧ Nx H) ∨ (J1.go j H ∧ ∃ Nx1 : Hp → Prop, (∀ H', Nx1 H' → ∃ k', k' < k ∧ W1 (j + 1) k' H') ∧ ∀ x H', J1.yld j H x H' → g1 x (wipe σ2 vs1) H' fun σ3 H5 => wipe σ3 vs1 = wipe σ2 vs1 ∧ tt1 σ3 H5 fun b H6 =>
        if b = true then te σ3 H6 fun y H7 => ∃ acc, H7 D = some (.lst acc) ∧ acc.length < sizeLine ∧ Nx1 (upd H7 D (.lst (acc ++ [y]))) else Nx1 H6)
    else Nx H3)
def Lc2R (g : TG) (tt : TT) (wi1 : TI) (g1 : TG) (tt1 : TT) (te : TE) (vs vs1 : List Nat) (σ : L2.St) (Q : VK) (us : List V) (H : Hp) : Prop := ∃ j : Int, us = [.int j] ∧ -(2 ^ 62) ≤ j ∧ j < 2 ^ 62 ∧ Lc2T g tt wi1 g1 tt1 te vs vs1 σ Q (Itr 0 j.toNat) H
theorem c2_range {g : TG} {tt : TT} {wi1 : TI} {g1 : TG} {tt1 : TT} {te : TE} {vs vs1 : List Nat} {σ : L2.St} {Q : VK} {H : Hp} {ta : TE} (h : ta σ H fun v H1 => Lc2R g tt wi1 g1 tt1 te vs vs1 σ Q [v] H1) : tLc2 (iRng1 (tCons ta tNil)) g tt wi1 g1 tt1 te vs vs1 σ H Q := h
/-- what the inner range's end is followed by -/
def InR (R : It → Hp → Prop) (us : List V) (H : Hp) : Prop := ∃ j : Int, us = [.int j] ∧ -(2 ^ 62) ≤ j ∧ j < 2 ^ 62 ∧ R (Itr 0 j.toNat) H
theorem k_lc2 {β : Type} {q : Rep β} [Mono q] {Z H : Hp} {σ : L2.St} {ta : TE} {tt1 : TT} {te : TE} {vs vs1 : List Nat} {Q : VK} {s s' n m : Nat} {us : List V} (t : Nat → Nat → Bool) (f : Nat → Nat → β) (hv : us = [.int (n : Int)]) (sub : Same Z H) (hn : n ≤ 1000) (hm : m ≤ 1000) (hs : s ∈ vs) (hs' : s' ∈ vs1)
    (body1 : ∀ i Z1 H1 (R : VK), i < n → Gr Z H Z1 H1 → (∀ Z2 H2, Gr Z1 H1 Z2 H2 → R (.int (m : Int)) H2) → ta ((wipe σ vs).set s (some (.int (i : Int)))) H1 R)
    (body2 : ∀ i k Z1 H1 (R : VK) (R0 : Hp → Prop), i < n → k < m → Gr Z H Z1 H1 → (t i k = true → ∀ y Z5 H5, Gr Z1 H1 Z5 H5 → q Z5 y (f i k) → R y H5) → (t i k = false → ∀ Z5 H5, Gr Z1 H1 Z5 H5 → R0 H5) →
      tt1 ((wipe ((wipe σ vs).set s (some (.int (i : Int)))) vs1).set s' (some (.int (k : Int)))) H1 fun b H4 => if b = true then te ((wipe ((wipe σ vs).set s (some (.int (i : Int)))) vs1).set s' (some (.int (k : Int)))) H4 R else R0 H4)
    (fin : ∀ v Z' H', Gr Z H Z' H' → isL q Z' v ((List.range n).flatMap fun i => ((List.range m).filter (t i)).map (f i)) → Q v H') :
    Lc2R (gName s) tYes (iRng1 (tCons ta tNil)) (gName s') tt1 te vs vs1 σ Q us H := by
  refine ⟨n, hv, by omega, by omega, fun D hD => ?_⟩
  have part : ∀ i, ((List.range i).flatMap fun i => ((List.range m).filter (t i)).map (f i)).length ≤ i * m := fun i => by
    induction i with
    | zero => simp
    | succ i ih =>
      have := List.length_filter_le (t i) (List.range m)
      rw [List.length_range] at this
      rw [List.range_succ, List.flatMap_append, List.length_append, Nat.add_mul]
      simp only [List.flatMap_cons, List.flatMap_nil, List.append_nil, List.length_map]
      omega
  refine ⟨fun i c Hc => c = n - i ∧ i ≤ n ∧ ∃ Z1 acc, Gr Z H Z1 Hc ∧ Z1 D = none ∧ Hc D = some (.lst acc) ∧ Paired (q Z1) acc ((List.range i).flatMap fun i => ((List.range m).filter (t i)).map (f i)), ⟨n, rfl, Nat.zero_le _, Z, [], (Grow.refl sub).alloc hD, sub.free hD, upd_same, .nil⟩, ?_⟩
  rintro i c Hc ⟨rfl, hi, Z1, acc, g, hz, hd, pr⟩
  have en : ((n : Nat) : Int).toNat = n := rfl
  by_cases hlt : i < n
  · refine .inr ⟨by rw [en]; exact hlt, fun H' => i + 1 ≤ n ∧ ∃ Z1 acc, Gr Z H Z1 H' ∧ Z1 D = none ∧ H' D = some (.lst acc) ∧ Paired (q Z1) acc ((List.range (i + 1)).flatMap fun i => ((List.range m).filter (t i)).map (f i)), fun H' h => ⟨n - (i + 1), by omega, rfl, h.1, h.2⟩, fun x H' y => ?_⟩
    obtain ⟨rfl, rfl⟩ := (show H' = Hc ∧ x = .int (0 + (i : Int)) from y)
    rw [Int.zero_add]
    refine ⟨wipe_set1 hs, a_yes (ifY rfl ?_)⟩
    refine body1 i Z1 H' _ hlt g fun Z2 H2 g2 => ?_
    have g' := g.trans g2
    have hd2 := g2.keepH hd
    have hz2 := g2.keepZ hz hd
    refine ⟨m, rfl, by omega, by omega, fun j c Hc => c = m - j ∧ j ≤ m ∧ ∃ Z3 acc, Gr Z H Z3 Hc ∧ Z3 D = none ∧ Hc D = some (.lst acc) ∧ Paired (q Z3) acc (((List.range i).flatMap fun i => ((List.range m).filter (t i)).map (f i)) ++ ((List.range j).filter (t i)).map (f i)),
      ⟨m, rfl, Nat.zero_le _, Z2, acc, g', hz2, hd2, by rw [List.range_zero, List.filter_nil, List.map_nil, List.append_nil]; exact Paired.mapP pr fun _ _ r => Mono.mono g2.z r⟩, ?_⟩
    rintro j c Hc ⟨rfl, hj, Z3, acc3, g3, hz3, hd3, pr3⟩
    have em : ((m : Nat) : Int).toNat = m := rfl
    by_cases hjm : j < m
    · refine .inr ⟨by rw [em]; exact hjm, fun H' => j + 1 ≤ m ∧ ∃ Z3 acc, Gr Z H Z3 H' ∧ Z3 D = none ∧ H' D = some (.lst acc) ∧ Paired (q Z3) acc (((List.range i).flatMap fun i => ((List.range m).filter (t i)).map (f i)) ++ ((List.range (j + 1)).filter (t i)).map (f i)), fun H' h => ⟨m - (j + 1), by omega, rfl, h.1, h.2⟩, fun x H' y => ?_⟩
      obtain ⟨rfl, rfl⟩ := (show H' = Hc ∧ x = .int (0 + (j : Int)) from y)
      rw [Int.zero_add]
      refine ⟨wipe_set1 hs', body2 i j Z3 H' _ _ hlt hjm g3 (fun ht y Z5 H5 g5 hy => ?_) (fun ht Z5 H5 g5 => ?_)⟩
      · have hd5 := g5.keepH hd3
        have hz5 := g5.keepZ hz3 hd3
        have lp := part i
        have lf := List.length_filter_le (t i) (List.range j)
        rw [List.length_range] at lf
        have lm : i * m ≤ 1000 * 1000 := Nat.mul_le_mul (by omega) hm
        have la : acc3.length ≤ 1001000 := by
          rw [Paired.length pr3, List.length_append, List.length_map]; omega
        refine ⟨acc3, hd5, Nat.lt_of_le_of_lt la (by decide), hjm, Z5, acc3 ++ [y], (g3.trans g5).mut (.inl hD) hz5 hd5, hz5, upd_same, ?_⟩
        rw [List.range_succ, List.filter_append, List.map_append, ← List.append_assoc]
        simp only [List.filter_cons, List.filter_nil, ht, if_true, List.map_cons, List.map_nil]
        exact Paired.snoc (Paired.mapP pr3 fun _ _ r => Mono.mono g5.z r) hy
      · refine ⟨hjm, Z5, acc3, g3.trans g5, g5.keepZ hz3 hd3, g5.keepH hd3, ?_⟩
        rw [List.range_succ, List.filter_append, List.map_append, ← List.append_assoc]
        simp only [List.filter_cons, List.filter_nil, ht, List.map_nil, List.append_nil, Bool.false_eq_true, if_false]
        exact Paired.mapP pr3 fun _ _ r => Mono.mono g5.z r
    · have e : j = m := by omega
      subst e
      refine .inl ⟨by show ((j : Nat) : Int).toNat ≤ j; rw [em]; exact Nat.le_refl _, hlt, Z3, acc3, g3, hz3, hd3, ?_⟩
      rw [List.range_succ, List.flatMap_append]
      simpa using pr3
  · have e : i = n := by omega
    subst e
    refine .inl ⟨by show ((i : Nat) : Int).toNat ≤ i; rw [en]; exact Nat.le_refl _, fin _ _ _ (g.freeze hD hz hd) ⟨D, acc, rfl, upd_same, Paired.mapP pr fun _ _ r => Mono.mono (same_upd hz) r⟩⟩
section
local macro_rules | `(tactic| walk_at "nf") => `(tactic| try dsimp only [tSeq, tAsg, gName, tRet, tRetN, tDrop, tNext, tIfS, tTest, tB, tOp, tUn, tNil, tCons, tCB, tC, tAnd, tOr, tNot, tAndV, tOrV, tNotV, tIf, sDPut, sFld, sFldAug, tM0, tM1, tBM, tBM0, tMeth, tCall, sGPut, tGGet, tGNin, tDGet, tDNotIn, tDIn, tFld, tChain])
local macro_rules | `(tactic| walk_at "st") => `(tactic| try dsimp only [wipe, List.set_cons_zero, List.set_cons_succ])
variable {P : Program} {w : World} {K : PySem.W.Frag} {mg : Str → Option Value} {base : Heap}
def intoF (M : Mach) (i : Nat) : List (List Nat) := (List.range M.left.length).flatMap fun s => ((List.range 2).filter fun k => decide (nx M.left s k = i)).map fun k => [s, k]
def spInto (CM : Addr) : Sp := fun vs H Q _ => ∃ (Z : Hp) (vm : V) (i : Nat) (a b : Str) (M : Mach), vs = [vm, .int (i : Int)] ∧ Same Z H ∧ isMach CM a b Z vm M ∧ a ∈ AL ∧ MOk M ∧
  ∀ v Z' H', Gr Z H Z' H' → isL (isT isN) Z' v (intoF M i) → Q v H'
abbrev N__into : List Str := ["machine", "state", "start", "k"]
theorem sc__into : FnScope N__into ["machine", "state"] (defScope (top 42)) := ⟨rfl, rfl, rfl, by decide +kernel, rfl, by decide +kernel, by decide +kernel⟩
theorem ok__into (T : Txt K mg) : FnOk P w K mg base CX0 1 T.d__into.f T.d__into.fd ["machine", "state"] (spInto T.c_Machine.C) := by
  refine T.d__into.fn.ok sc__into (fun vs H Q E h => ?_) (fun cdv A outer s H vs Q E hr h => ?_)
  · obtain ⟨Z, vm, i, a, b, M, rfl, _⟩ := h
    rfl
  · obtain ⟨Z, vm, i, a, b, M, rfl, sub, hM, ha, mo, kk⟩ := h
    refine ⟨_, pss_one (ps_ret (pe_lc2 (own := [("start", 2), ("k", 3)]) (vs1 := [3]) rfl sc__into.nd (pi_range1 (by rfl) T.b_range (pa_cons (pe_callB (call_len_seqK K rfl) (by rfl) T.b_len (by decide +kernel) (pa_cons (pe_fldK K rfl (pv 0) rfl) pa_nil)) pa_nil)) (blkOk_by (N := N__into) (sc := defScope (top 42)) (by decide +kernel)) (by decide) (fun _ _ _ _ _ => pg_name (i := 2) sc__into.nd rfl (.inl rfl) (.inr rfl)) (fun _ _ _ _ _ => pts_nil) (fun _ _ _ _ _ => pi_range1 (by rfl) T.b_range (pa_cons (pe_callB call_len_str (by rfl) T.b_len (by decide +kernel) (pa_cons (pe_fldK K rfl (pv 0) rfl) pa_nil)) pa_nil)) (fun _ _ _ _ _ => pg_name (i := 3) sc__into.nd rfl (.inl rfl) (.inr rfl)) (fun _ _ _ _ _ => pts_one (pt_cmpR op_eq (pe_ix (ix_listK K rfl) (pe_ix (ix_listK K rfl) (pe_fldK K rfl (pv 0) rfl) (pv 2) (fun _ _ => rfl)) (pv 3) (fun _ _ => rfl)) (pv 1) (nomark _))) (fun _ _ _ _ _ => pe_tup (pa_cons (pv 2) (pa_cons (pv 3) pa_nil))))), ?_⟩
    obtain ⟨xm, dxm, vl, vr, vt, rfl, hx, hl, hr', ht⟩ := id hM
    have ll := mo.l40
    have ha2 := (al_two a ha).2.1
    walk_at "nf"
    refine c2_range ?_
    walk_at "nf"
    refine ⟨_, rfl, xm, _, dxm, _, vl, rfl, sub _ _ hx, T.c_Machine.cl, T.n_Machine_left, rfl, x_len hl sub rfl ?_⟩
    refine k_lc2 (n := M.left.length) (m := 2) (q := isT isN) (fun s k => decide (nx M.left s k = i)) (fun s k => [s, k]) rfl sub (by omega) (by decide) (by decide) (by decide) (fun s Z1 H1 R hs g1 hR => ?_) (fun s k Z1 H1 R R0 hs hk g1 hR hR0 => ?_) (fun v Z' H' g' hv => kk v Z' H' g' hv)
    · refine ⟨_, rfl, xm, _, dxm, _, _, rfl, g1.zh _ _ (g1.z _ _ hx), T.c_Machine.cl, T.n_Machine_reads, rfl, a, rfl, by rw [ha2]; decide, ?_⟩
      rw [ha2]
      exact hR Z1 H1 (Grow.refl g1.zh)
    · have hrow : M.left[s]? = some (M.left.getD s []) := get_of hs
      have hcell : (M.left.getD s [])[k]? = some (nx M.left s k) := get_of (by rw [mo.ok.left.len _ (List.mem_of_getElem? hrow)]; exact hk)
      refine ⟨_, rfl, xm, _, dxm, _, _, rfl, g1.zh _ _ (g1.z _ _ hx), T.c_Machine.cl, T.n_Machine_left, rfl, _, rfl, x_ix (Mono.mono g1.z hl) g1.zh hrow fun w1 h1 => ⟨_, rfl, x_ix h1 g1.zh hcell fun w2 h2 => ?_⟩⟩
      obtain rfl : w2 = .int ((nx M.left s k : Nat) : Int) := h2
      refine ⟨_, rfl, rfl, _, rfl, ?_⟩
      by_cases h : nx M.left s k = i
      · refine ifY (by rw [h]; exact decide_eq_true rfl) (a_tup2 ⟨_, rfl, _, rfl, x_tupZ g1.zh (by show 2 ≤ 1000; decide) fun t Z2 H2 g2 ht2 => hR (decide_eq_true h) _ Z2 H2 g2 (isT_vN (xs := [s, k]) ht2)⟩)
      · exact ifN (decide_eq_false fun e => h (by injection e with e; omega)) (hR0 (decide_eq_false h) Z1 H1 (Grow.refl g1.zh))
end
end K87

set_option autoImplicit true
set_option Elab.async false
set_option linter.all false
set_option maxRecDepth 100000
set_option maxHeartbeats 4000000
set_option pp.deepTerms.threshold 6
/-! K87D16: _ways, count_preimages. -/
namespace K87
open PySem L2 PySem.Spec PyProof.Rows
theorem S_flat {α β : Type} (l : List α) (m : List β) (t : α → β → Bool) (f : α → β → List Nat) (g : List Nat → Nat) : S (l.flatMap fun i => (m.filter (t i)).map (f i)) g = S l fun i => S m fun k => if t i k = true then g (f i k) else 0 := by
  rw [S_flatMap]
  exact S_congr fun i _ => by rw [S_map, S_filter]
/-- one item of a layer, over the ways into its state -/
theorem stepW_into (M : Mach) (l i j : Nat) (f : List Nat → Nat) : stepW M l f [i, j] = S (intoF M i) fun e => if M.tb (e.getD 0 0) j (e.getD 1 0) = l then f [e.getD 0 0, nx M.right j (e.getD 1 0)] else 0 := by
  unfold stepW intoF
  rw [S_flat]
  refine S_congr fun s _ => S_congr fun k _ => ?_
  show (if nx M.left s k = i ∧ M.tb s j k = l then f [s, nx M.right j k] else 0) = if decide (nx M.left s k = i) = true then (if M.tb s j k = l then f [s, nx M.right j k] else 0) else 0
  by_cases h1 : nx M.left s k = i <;> by_cases h2 : M.tb s j k = l <;> simp [h1, h2]
theorem into_at {M : Mach} {i n : Nat} {e : List Nat} (h : (intoF M i)[n]? = some e) : ∃ s k, e = [s, k] ∧ s < M.left.length ∧ k < 2 ∧ nx M.left s k = i := by
  obtain ⟨s, hs, h⟩ := List.mem_flatMap.mp (List.mem_of_getElem? h)
  obtain ⟨k, hk, rfl⟩ := List.mem_map.mp h
  obtain ⟨h1, h2⟩ := List.mem_filter.mp hk
  exact ⟨s, k, rfl, List.mem_range.mp hs, List.mem_range.mp h1, of_decide_eq_true h2⟩
section
local macro_rules | `(tactic| walk_at "nf") => `(tactic| try dsimp only [tSeq, tAsg, gName, tRet, tRetN, tDrop, tNext, tIfS, tTest, tB, tOp, tUn, tNil, tCons, tCB, tC, tAnd, tOr, tNot, tAndV, tOrV, tNotV, tIf, sDPut, sFld, sFldAug, tM0, tM1, tBM, tBM0, tMeth, tCall, sGPut, tGGet, tGNin, tDGet, tDNotIn, tDIn, tFld, tChain])
local macro_rules | `(tactic| walk_at "st") => `(tactic| try dsimp only [wipe, List.set_cons_zero, List.set_cons_succ])
variable {P : Program} {w : World} {K : PySem.W.Frag} {mg : Str → Option Value} {base : Heap}
def spWays (CM : Addr) : Sp := fun vs H Q _ => ∃ (Z : Hp) (vm : V) (a b : Str) (M : Mach) (u : List Nat), vs = [vm, .str (strOf b u)] ∧ Same Z H ∧ isMach CM a b Z vm M ∧ a ∈ AL ∧ b ∈ AL ∧ MOk M ∧ (∀ k ∈ u, k < 2) ∧ u.length ≤ 1000 ∧
  ∀ l d rest Z' H' kvs, Gr Z H Z' H' → H' l = some (.lst (.ref d :: rest)) → H d = none → Z' d = none → H' d = some (.dT (hD kvs)) → Hist (B2 M.left.length M.right.length) kvs → (∀ f, wsum kvs f = bwd M u f) → Q (.ref l) H'
abbrev N__ways : List Str := ["machine", "word", "layers", "i", "letter", "found", "j", "count", "start", "k", "pair"]
theorem sc__ways : FnScope N__ways ["machine", "word"] (defScope (top 41)) := ⟨rfl, rfl, rfl, by decide +kernel, rfl, by decide +kernel, by decide +kernel⟩
theorem ok__ways (T : Txt K mg) : FnOk P w K mg base CX0 2 T.d__ways.f T.d__ways.fd ["machine", "word"] (spWays T.c_Machine.C) := by
  refine T.d__ways.fn.ok sc__ways (fun vs H Q E h => ?_) (fun cdv A outer s H vs Q E hr h => ?_)
  · obtain ⟨Z, vm, a, b, M, u, rfl, _⟩ := h
    rfl
  · obtain ⟨Z, vm, a, b, M, u, rfl, sub, hM, ha, hb, mo, hu2, hul, kk⟩ := h
    have hu := hu_of hr
    refine ⟨_, pss_cons (ps_set (i := 2) sc__ways.nd rfl (.inl rfl) (pe_lst (pa_cons (pe_dg dcT_new (dcT_sto hu) (own := [("i", 3)]) rfl sc__ways.nd (pi_range1 (by rfl) T.b_range (pa_cons (pe_callB (call_len_seqK K rfl) (by rfl) T.b_len (by decide +kernel) (pa_cons (pe_fldK K rfl (pv 0) rfl) pa_nil)) pa_nil)) (blkOk_by (N := N__ways) (sc := defScope (top 41)) (by decide +kernel)) (fun _ _ _ _ _ => pg_name (i := 3) sc__ways.nd rfl (.inl rfl) (.inr rfl)) (fun _ _ _ _ _ => pts_nil) (fun _ _ _ _ _ => pe_tup (pa_cons (pv 3) (pa_cons (pe_int) pa_nil))) (fun _ _ _ _ _ => pe_int)) pa_nil)))
  (pss_cons (ps_for PassesOwn.never rfl (pi_str (pe_revS (pv 1))) (pg_name (i := 4) sc__ways.nd rfl (.inl rfl) (.inl rfl))
  (pss_cons (ps_set (i := 5) sc__ways.nd rfl (.inl rfl) (pe_dnewT))
  (pss_cons (ps_lock (ps_for PassesOwn.never rfl (pi_itemsT (pe_ix (ix_listK K rfl) (pv 2) (pe_un un_neg (pe_int)) (fun _ _ => rfl))) (pg_tupK (n := 2) K rfl rfl (pgs_cons (pg_tupK (n := 2) K rfl rfl (pgs_cons (pg_name (i := 3) sc__ways.nd rfl (.inl rfl) (.inl rfl)) (pgs_cons (pg_name (i := 6) sc__ways.nd rfl (.inl rfl) (.inl rfl)) pgs_nil))) (pgs_cons (pg_name (i := 7) sc__ways.nd rfl (.inl rfl) (.inl rfl)) pgs_nil)))
  (pss_one (ps_for PassesOwn.never rfl (pi_listK K rfl (pe_call (ok__into T) (hr.mono (by decide)) (by rfl) T.d__into.mg T.d__into.fn.kp T.d__into.b .nil pass0 (pa_cons (pv 0) (pa_cons (pv 3) pa_nil)))) (pg_tupK (n := 2) K rfl rfl (pgs_cons (pg_name (i := 8) sc__ways.nd rfl (.inl rfl) (.inl rfl)) (pgs_cons (pg_name (i := 9) sc__ways.nd rfl (.inl rfl) (.inl rfl)) pgs_nil)))
  (pss_one (ps_if (pt_cmpR op_eq (pe_ix ix_str (pe_ix (ix_listK K rfl) (pe_ix (ix_listK K rfl) (pe_fldK K rfl (pv 0) rfl) (pv 8) (fun _ _ => rfl)) (pv 6) (fun _ _ => rfl)) (pv 9) (fun _ _ => rfl)) (pv 4) (nomark _))
  (pss_cons (ps_set (i := 10) sc__ways.nd rfl (.inl rfl) (pe_tup (pa_cons (pv 8) (pa_cons (pe_ix (ix_listK K rfl) (pe_ix (ix_listK K rfl) (pe_fldK K rfl (pv 0) rfl) (pv 6) (fun _ _ => rfl)) (pv 9) (fun _ _ => rfl)) pa_nil))))
  (pss_one (ps_dput hu (pv 5) (pv 10) (pe_op op_add (pe_dget2 hu (pv 5) (pv 10) (pe_int) ⟨rfl, rfl, rfl, rfl⟩) (pv 7)) rfl)))
  (pss_nil)))))))
  (pss_one (ps_expr (pe_bmK K rfl PySem.F.plainAttrs_list PySem.F.slot_list_append PySem.F.type_list_append mt_append (pv 2) (pa_cons (pv 5) pa_nil)))))))
  (pss_one (ps_ret (pe_revLK K rfl (pv 2))))), ?_⟩
    obtain ⟨xm, dxm, vl, vr, vt, rfl, hx, hl, hr', ht⟩ := id hM
    have ll := mo.l40
    have lr := mo.r40
    have mok := mo.ok
    have cap : ∀ {kv : HL}, Hist (B2 M.left.length M.right.length) kv → kv.length ≤ 1000000 := fun h => by
      have h1 := h.few2
      have h2 : M.left.length * M.right.length ≤ 3 * 3 := Nat.mul_le_mul ll lr
      omega
    walk_at "nf"
    -- layers = [{(i, 0): 1 for i in range(len(machine.left))}]
    refine a_lst1 (d_rangeT ?_)
    walk_at "nf"
    refine ⟨_, rfl, xm, _, dxm, _, vl, rfl, sub _ _ hx, T.c_Machine.cl, T.n_Machine_left, rfl, x_len hl sub rfl ?_⟩
    refine k_dcR (n := M.left.length) (fun i => [i, 0]) (fun i j e => by injection e) rfl sub (by omega) (by decide) (fun i Z2 H2 R hi g2 hR => ?_) (fun d0 Z2 H2 g2 hd0 zd0 hd => ?_)
    · exact a_tup2 ⟨_, rfl, t_C (x_tupZ g2.zh (by show 2 ≤ 1000; decide) fun t Z3 H3 g3 ht3 => hR t Z3 H3 g3 ht3)⟩
    refine x_lstN (by show 1 ≤ 1000; decide) fun lay hlay => ?_
    have hlay0 := g2.free hlay
    have nld : d0 ≠ lay := ne_of_none hd hlay
    have g3 := g2.alloc (o := .lst [.ref d0]) hlay
    -- for letter in word[::-1]
    have hsz : (strOf b u).length ≤ sizeLine := by rw [strOf_len]; exact Nat.le_trans hul (by decide)
    have hrev : (⟨(strOf b u).cps.toList.reverse.toArray⟩ : Str).cps.toList = u.reverse.map fun k => (cs b).getD k 0 := by
      show (strOf b u).cps.toList.reverse = _
      rw [strOf_l, List.map_reverse]
    refine f_str ⟨_, rfl, strOf b u, rfl, hsz, ?_⟩
    refine k_forS rfl (fun t σ Hc => ∃ d Z1 kvs ds e3 e4 e5 e6 e7 e8 e9 e10, σ = [some (.ref xm), some (.str (strOf b u)), some (.ref lay), e3, e4, e5, e6, e7, e8, e9, e10] ∧ Gr Z H Z1 Hc ∧ Z1 lay = none ∧ Hc lay = some (.lst (ds ++ [.ref d])) ∧ ds.length = t ∧ H d = none ∧ Z1 d = none ∧ Hc d = some (.dT (hD kvs)) ∧
        Hist (B2 M.left.length M.right.length) kvs ∧ ∀ f, wsum kvs f = bwd M (u.reverse.take t).reverse f)
      ⟨d0, Z2, _, [], none, none, none, none, none, none, none, none, rfl, g3, g2.zh.free hlay, upd_same, rfl, hd0, zd0, by rw [upd_ne nld]; exact hd, range_hist (fun i j e => by injection e) (fun i hi => ⟨i, 0, rfl, hi, mok.right.pos⟩), fun f => by rw [range_wsum]; exact (bwd_nil M f).symm⟩ ?_ ?_
    · rintro t c σ Hc hc ⟨d, Z1, kvs, ds, e3, e4, e5, e6, e7, e8, e9, e10, rfl, g, zlay, hly, hds, hd0, zd, hd, hist, hw⟩
      rw [hrev, List.getElem?_map, Option.map_eq_some_iff] at hc
      obtain ⟨l, hl', rfl⟩ := hc
      have htl : t < u.length := by
        have := (List.getElem?_eq_some_iff.mp hl').1
        rwa [List.length_reverse] at this
      have l2 : l < 2 := hu2 l (List.mem_reverse.mp (List.mem_of_getElem? hl'))
      have esuf : (u.reverse.take (t + 1)).reverse = l :: (u.reverse.take t).reverse := by
        rw [take_snoc hl', List.reverse_append]; rfl
      walk_at "nf"
      -- found = {}
      intro fd hfd
      have hfd0 := g.free hfd
      have ndf : d ≠ fd := ne_of_none hd hfd
      have nlf : lay ≠ fd := ne_of_none hly hfd
      have ndl : d ≠ lay := ne_of hd hly (fun z => nomatch z)
      have gf := g.alloc (o := .dT []) hfd
      refine ⟨d, .dT (hD kvs), by rw [upd_ne ndf]; exact hd, True.intro, fun od => ?_⟩
      have gk := gf.mut (o := .frz od (.dT (hD kvs))) (.inl hd0) zd (by rw [upd_ne ndf]; exact hd)
      have hlyk : (upd (upd Hc fd (.dT [])) d (.frz od (.dT (hD kvs)))) lay = some (.lst (ds ++ [.ref d])) := by rw [upd_ne ndl.symm, upd_ne nlf]; exact hly
      -- for (i, j), count in layers[-1].items()
      refine f_items ⟨_, rfl, _, rfl, ⟨lay, _, _, _, rfl, rfl, SqL.of hlyk, atI_last _ _, ?_⟩⟩
      refine k_forI2 (K := K) rfl upd_same hist (fun n σ Hc => ∃ Z1 kv e3 e6 e7 e8 e9 e10, σ = [some (.ref xm), some (.str (strOf b u)), some (.ref lay), e3, some (.str ⟨#[(cs b).getD l 0]⟩), some (.ref fd), e6, e7, e8, e9, e10] ∧ Gr Z H Z1 Hc ∧ Z1 lay = none ∧ Hc lay = some (.lst (ds ++ [.ref d])) ∧ Z1 d = none ∧ Hc d = some (.frz od (.dT (hD kvs))) ∧ Z1 fd = none ∧ Hc fd = some (.dT (hD kv)) ∧
          Hist (B2 M.left.length M.right.length) kv ∧ ∀ f, wsum kv f = wsum (kvs.take n) (stepW M l f))
        ⟨Z1, [], _, _, _, _, _, _, rfl, gk, zlay, hlyk, zd, upd_same, g.zh.free hfd, by rw [upd_ne ndf.symm]; exact upd_same, Hist.nil, fun f => rfl⟩ (fun n σ Hc ⟨_, _, _, _, _, _, _, _, _, _, _, _, _, h, _⟩ => h) ?_ ?_
      · rintro n i j z σ Hc2 Tp U hn hi hj ⟨Z3, kv, e3, e6, e7, e8, e9, e10, rfl, g3, zlay3, hly3, zd3, hd3, zf3, hf3, hist3, hw3⟩ hTp
        have tk := take_snoc hn
        have g3 := g3.alloc (o := .tup [.ref U, .int (z : Int)]) hTp
        have hf3 : (upd Hc2 Tp (.tup [.ref U, .int (z : Int)])) fd = some (.dT (hD kv)) := by rw [upd_ne (ne_of_none hf3 hTp)]; exact hf3
        have hd3 : (upd Hc2 Tp (.tup [.ref U, .int (z : Int)])) d = some (.frz od (.dT (hD kvs))) := by rw [upd_ne (ne_of_none hd3 hTp)]; exact hd3
        have hly3 : (upd Hc2 Tp (.tup [.ref U, .int (z : Int)])) lay = some (.lst (ds ++ [.ref d])) := by rw [upd_ne (ne_of_none hly3 hTp)]; exact hly3
        generalize upd Hc2 Tp (.tup [.ref U, .int (z : Int)]) = Hc3 at g3 hf3 hd3 hly3
        walk_at "nf"
        -- for start, k in _into(machine, i)
        refine f_list ?_
        walk_at "nf"
        refine ⟨_, rfl, _, rfl, Z3, .ref xm, i, a, b, M, rfl, g3.zh, Mono.mono g3.z hM, ha, mo, fun vi Z4 H4 g4 hvi => ?_⟩
        refine k_forL (K := K) (Z := Z4) hvi (fun m σ Hc => ∃ Z5 kv e8 e9 e10, σ = [some (.ref xm), some (.str (strOf b u)), some (.ref lay), some (.int (i : Int)), some (.str ⟨#[(cs b).getD l 0]⟩), some (.ref fd), some (.int (j : Int)), some (.int (z : Int)), e8, e9, e10] ∧ Gr Z H Z5 Hc ∧ Same Z4 Z5 ∧ Z5 lay = none ∧ Hc lay = some (.lst (ds ++ [.ref d])) ∧ Z5 d = none ∧ Hc d = some (.frz od (.dT (hD kvs))) ∧ Z5 fd = none ∧ Hc fd = some (.dT (hD kv)) ∧
            Hist (B2 M.left.length M.right.length) kv ∧ ∀ f, wsum kv f = wsum (kvs.take n) (stepW M l f) + z * S ((intoF M i).take m) fun e => if M.tb (e.getD 0 0) j (e.getD 1 0) = l then f [e.getD 0 0, nx M.right j (e.getD 1 0)] else 0)
          ⟨Z4, kv, _, _, _, rfl, g3.trans g4, Same.refl _, g4.keepZ zlay3 hly3, g4.keepH hly3, g4.keepZ zd3 hd3, g4.keepH hd3, g4.keepZ zf3 hf3, g4.keepH hf3, hist3, fun f => by rw [hw3, List.take_zero, S_nil, Nat.mul_zero, Nat.add_zero]⟩ (fun m σ Hc ⟨_, _, _, _, _, _, g, s, _⟩ => s.trans g.zh) ?_ ?_
        · rintro m e we σ Hc5 hm pe ⟨Z5, kv5, e8, e9, e10, rfl, g5, s45, zlay5, hly5, zd5, hd5, zf5, hf5, hist5, hw5⟩
          obtain ⟨st, k, rfl, hst, hk, hinto⟩ := into_at hm
          have tkm := take_snoc hm
          obtain ⟨te, rfl, hte⟩ := isT_N.mp pe
          have htrow : M.table[st]? = some (M.table.getD st []) := get_of (by rw [mok.tlen]; exact hst)
          have mtrow := List.mem_of_getElem? htrow
          have htc : (M.table.getD st [])[j]? = some ((M.table.getD st []).getD j []) := get_of (by rw [mok.trow _ mtrow]; exact hj)
          obtain ⟨hc2, hcb⟩ := mok.tcell _ mtrow _ (List.mem_of_getElem? htc)
          refine ⟨te, _, rfl, SqT.of (g5.zh _ _ (s45 _ _ hte)), rfl, _, _, rfl, _, _, rfl, rfl, ?_⟩
          walk_at "nf"
          -- if machine.table[start][j][k] == letter
          refine ⟨_, rfl, xm, _, dxm, _, _, rfl, g5.zh _ _ (g5.z _ _ hx), T.c_Machine.cl, T.n_Machine_table, rfl, _, rfl, x_ix (Mono.mono g5.z ht) g5.zh htrow fun w3 h3 => ⟨_, rfl, x_ix h3 g5.zh htc fun w4 h4 => ⟨_, rfl, ?_⟩⟩⟩
          obtain rfl : w4 = .str (strOf b ((M.table.getD st []).getD j [])) := h4
          refine x_cell hb hc2 hcb hk fun y my ey ey2 => ⟨_, rfl, rfl, _, rfl, ?_⟩
          have ey' : ((cs b).idxOf y : Nat) = M.tb st j k := ey
          have el := (al_get hb l2).2
          by_cases hyl : M.tb st j k = l
          · have e1 : y = (cs b).getD l 0 := by rw [ey2]; show (cs b).getD (M.tb st j k) 0 = _; rw [hyl]
            refine ifY (by rw [e1]; exact decide_eq_true rfl) ?_
            have hrow : M.right[j]? = some (M.right.getD j []) := get_of hj
            have hcell : (M.right.getD j [])[k]? = some (nx M.right j k) := get_of (by rw [mok.right.len _ (List.mem_of_getElem? hrow)]; exact hk)
            -- pair
            refine a_tup2 ?_
            walk_at "nf"
            refine ⟨_, rfl, _, rfl, xm, _, dxm, _, _, rfl, g5.zh _ _ (g5.z _ _ hx), T.c_Machine.cl, T.n_Machine_right, rfl, _, rfl, x_ix (Mono.mono g5.z hr') g5.zh hrow fun w1 h1 => ⟨_, rfl, x_ix h1 g5.zh hcell fun w2 h2 => ?_⟩⟩
            obtain rfl : w2 = .int ((nx M.right j k : Nat) : Int) := h2
            refine x_tupZ (Z := Z5) g5.zh (by show 2 ≤ 1000; decide) fun t6 Z6 H6 g6 ht6 => ?_
            have hf6 := g6.keepH hf5
            have zf6 := g6.keepZ zf5 hf5
            have htk : ∀ {H7 : Hp}, Same Z6 H7 → H7 t6 = some (.tup ((kT [st, nx M.right j k]).map kV)) := fun s => by rw [kT_v]; exact s _ _ ht6
            -- found[pair] = found.get(pair, 0) + count
            refine ⟨_, rfl, fd, rfl, .inr ⟨_, Rd.of hf6⟩, _, rfl, _, DGet.t hf6 (htk g6.zh), ?_⟩
            rw [hD_getD]
            refine ⟨_, rfl, _, _, rfl, rfl, _, rfl, _, rfl, fd, _, rfl, DPut.t hf6 (htk g6.zh) (sz6' (by rw [hD_len]; exact cap hist5)), ?_⟩
            have ep := hD_put kv5 [st, nx M.right j k] z
            rw [Int.natCast_add] at ep
            rw [ep]
            have ndf' : d ≠ fd := ndf
            refine ⟨Z6, addK kv5 [st, nx M.right j k] z, _, _, _, rfl, (g5.trans g6).mut (.inl hfd0) zf6 hf6, s45.trans g6.z, g6.keepZ zlay5 hly5, by rw [upd_ne nlf]; exact g6.keepH hly5, g6.keepZ zd5 hd5, by rw [upd_ne ndf']; exact g6.keepH hd5, zf6, upd_same, hist5.add ⟨_, _, rfl, hst, mok.right.nx hj hk⟩ z, fun f => ?_⟩
            rw [wsum_add _ _ hist5.nd, hw5, tkm, S_append, S_one, Nat.mul_add]
            show _ = _ + (_ + z * if M.tb st j k = l then f [st, nx M.right j k] else 0)
            rw [if_pos hyl]
            omega
          · refine ifN (decide_eq_false fun e => hyl ?_) ⟨Z5, kv5, _, _, _, rfl, g5, s45, zlay5, hly5, zd5, hd5, zf5, hf5, hist5, fun f => ?_⟩
            · injection e with e
              have e3 : y = (cs b).getD l 0 := by
                injection e with e
                simpa using e
              rw [← ey', e3, el]
            · rw [hw5, tkm, S_append, S_one, Nat.mul_add]
              show _ = _ + (_ + z * if M.tb st j k = l then f [st, nx M.right j k] else 0)
              rw [if_neg hyl]
              omega
        · rintro σ Hc5 ⟨Z5, kv5, e8, e9, e10, rfl, g5, s45, zlay5, hly5, zd5, hd5, zf5, hf5, hist5, hw5⟩
          rw [List.take_length] at hw5
          refine ⟨Z5, kv5, _, _, _, _, _, _, rfl, g5, zlay5, hly5, zd5, hd5, zf5, hf5, hist5, fun f => ?_⟩
          rw [hw5, tk, wsum_append, wsum_cons, wsum_nil, Nat.add_zero, stepW_into]
      · rintro σ Hc2 ⟨Z3, kv, e3, e6, e7, e8, e9, e10, rfl, g3, zlay3, hly3, zd3, hd3, zf3, hf3, hist3, hw3⟩
        rw [List.take_length] at hw3
        refine ⟨hd3, ?_⟩
        have g4 := g3.mut (o := .dT (hD kvs)) (.inl hd0) zd3 hd3
        have hly4 : (upd Hc2 d (.dT (hD kvs))) lay = some (.lst (ds ++ [.ref d])) := by rw [upd_ne ndl.symm]; exact hly3
        have hf4 : (upd Hc2 d (.dT (hD kvs))) fd = some (.dT (hD kv)) := by rw [upd_ne ndf.symm]; exact hf3
        generalize upd Hc2 d (.dT (hD kvs)) = Hc4 at g4 hly4 hf4
        walk_at "nf"
        -- layers.append(found)
        refine ⟨_, rfl, .inl ⟨rfl, _, SqL.of hly4⟩, _, rfl, lay, _, _, rfl, rfl, hly4, sz6' (by rw [List.length_append, hds]; show t + 1 ≤ 1000000; omega), ?_⟩
        refine ⟨fd, Z3, kv, ds ++ [.ref d], _, _, _, _, _, _, _, _, rfl, g4.mut (.inl hlay0) zlay3 hly4, zlay3, upd_same, by rw [List.length_append, hds]; rfl, hfd0, zf3, by rw [upd_ne nlf.symm]; exact hf4, hist3, fun f => ?_⟩
        rw [hw3, hw, esuf, bwd_step mok]
    · rintro σ Hc ⟨d, Z1, kvs, ds, e3, e4, e5, e6, e7, e8, e9, e10, rfl, g, zlay, hly, hds, hd0, zd, hd, hist, hw⟩
      have hw : ∀ f, wsum kvs f = bwd M u f := fun f => by
        rw [hw, hrev, List.length_map, List.take_length, List.reverse_reverse]
      walk_at "nf"
      refine ⟨_, rfl, lay, _, rfl, SqL.of hly, fun p hp => ?_⟩
      rw [List.reverse_append]
      have ndp : d ≠ p := ne_of_none hd hp
      exact kk p d ds.reverse Z1 _ kvs (g.alloc hp) upd_same hd0 zd (by rw [upd_ne ndp]; exact hd) hist hw
def spCP (CM : Addr) : Sp := fun vs H Q _ => ∃ (Z : Hp) (vm : V) (a b : Str) (M : Mach) (u : List Nat), vs = [vm, .str (strOf b u)] ∧ Same Z H ∧ isMach CM a b Z vm M ∧ a ∈ AL ∧ b ∈ AL ∧ MOk M ∧ (∀ k ∈ u, k < 2) ∧ u.length ≤ 1000 ∧
  ∀ Z' H', Gr Z H Z' H' → Q (.int ((pre M u : Nat) : Int)) H'
abbrev N_count_preimages : List Str := ["machine", "word", "i", "j", "count"]
theorem sc_count_preimages : FnScope N_count_preimages ["machine", "word"] (defScope (top 43)) := ⟨rfl, rfl, rfl, by decide +kernel, rfl, by decide +kernel, by decide +kernel⟩
theorem ok_count_preimages (T : Txt K mg) : FnOk P w K mg base CX0 3 T.d_count_preimages.f T.d_count_preimages.fd ["machine", "word"] (spCP T.c_Machine.C) := by
  refine T.d_count_preimages.fn.ok sc_count_preimages (fun vs H Q E h => ?_) (fun cdv A outer s H vs Q E hr h => ?_)
  · obtain ⟨Z, vm, a, b, M, u, rfl, _⟩ := h
    rfl
  · obtain ⟨Z, vm, a, b, M, u, rfl, sub, hM, ha, hb, mo, hu2, hul, kk⟩ := h
    refine ⟨_, pss_one (ps_ret (pe_callB (cr_sumK K rfl rfl) (by rfl) T.b_sum (by decide +kernel) (pa_cons (pe_lc (own := [("count", 4), ("i", 2), ("j", 3)]) rfl sc_count_preimages.nd (pi_itemsT (pe_lockV (pe_ix (ix_listK K rfl) (pe_call (ok__ways T) (hr.mono (by decide)) (by rfl) T.d__ways.mg T.d__ways.fn.kp T.d__ways.b .nil pass0 (pa_cons (pv 0) (pa_cons (pv 1) pa_nil))) (pe_int) (fun _ _ => rfl)))) (blkOk_by (N := N_count_preimages) (sc := defScope (top 43)) (by decide +kernel)) (fun _ _ _ _ _ => pg_tupK (n := 2) K rfl rfl (pgs_cons (pg_tupK (n := 2) K rfl rfl (pgs_cons (pg_name (i := 2) sc_count_preimages.nd rfl (.inl rfl) (.inr rfl)) (pgs_cons (pg_name (i := 3) sc_count_preimages.nd rfl (.inl rfl) (.inr rfl)) pgs_nil))) (pgs_cons (pg_name (i := 4) sc_count_preimages.nd rfl (.inl rfl) (.inr rfl)) pgs_nil))) (fun _ _ _ _ _ => pts_one (pt_cmpR op_eq (pv 2) (pe_int) (nomark _))) (fun _ _ _ _ _ => pv 4)) pa_nil))), ?_⟩
    have ll := mo.l40
    have lr := mo.r40
    walk_at "nf"
    refine c_items ?_
    walk_at "nf"
    refine ⟨_, rfl, _, rfl, Z, vm, a, b, M, u, rfl, sub, hM, ha, hb, mo, hu2, hul, fun l d rest Z1 H1 kvs g1 hl hd0 zd hd hist hw => ?_⟩
    refine ⟨l, _, 0, _, rfl, rfl, SqL.of hl, atI_nat (j := 0) rfl, d, .dT (hD kvs), rfl, hd, True.intro, fun od => ?_⟩
    have g2 := g1.mut (o := .frz od (.dT (hD kvs))) (.inl hd0) zd hd
    have cap : kvs.length ≤ 1000000 := by
      have h1 := hist.few2
      have h2 : M.left.length * M.right.length ≤ 3 * 3 := Nat.mul_le_mul ll lr
      omega
    refine k_filtI2 (K := K) (fun key => decide (key.getD 0 0 = 0)) rfl upd_same hist g2.zh cap (by decide) (by decide) (by decide) (fun m i j z Z5 H5 R R0 hm hi hj g5 hR hR0 => ?_) (fun v Z' H' g' hv => ?_)
    · refine ⟨_, rfl, rfl, _, rfl, ?_⟩
      by_cases hi0 : i = 0
      · exact ifY (by rw [hi0]; exact decide_eq_true rfl) ⟨_, rfl, hR (decide_eq_true hi0) Z5 H5 (Grow.refl g5.zh)⟩
      · exact ifN (decide_eq_false fun e => hi0 (by injection e with e; omega)) (hR0 (decide_eq_false hi0) Z5 H5 (Grow.refl g5.zh))
    · refine x_sum hv g'.zh ?_
      have e0 := sum_filt kvs (fun key => decide (key.getD 0 0 = 0))
      rw [hw] at e0
      have e1 : (fun k : List Nat => if decide (k.getD 0 0 = 0) = true then 1 else 0) = fun key : List Nat => if key.getD 0 0 = 0 then 1 else 0 := by
        funext k
        simp only [decide_eq_true_eq]
      rw [e1, bwd_end mo.ok] at e0
      exact Eq.mpr (congrArg (fun m : Nat => Q (V.int (m : Int)) H') e0) (kk Z' H' (g2.trans g'))
end
end K87

set_option autoImplicit true
set_option Elab.async false
set_option linter.all false
set_option maxRecDepth 100000
set_option maxHeartbeats 4000000
set_option pp.deepTerms.threshold 6
/-! K87D17: _merged, Scanner._join, _row, _choice. -/
namespace K87
open PySem L2 PySem.Spec PyProof.Rows
theorem k_ifE {tA : TT} {ta tb : TE} {σ : L2.St} {H : Hp} {Q : VK} (b : Bool) (P : V → Hp → Hp → Prop) (hc : ∀ R : Bool → Hp → Prop, R b H → tA σ H R) (hA : b = true → ∀ R : VK, (∀ v Z2 H2, P v Z2 H2 → R v H2) → ta σ H R) (hB : b = false → ∀ R : VK, (∀ v Z2 H2, P v Z2 H2 → R v H2) → tb σ H R)
    (k : ∀ v Z2 H2, P v Z2 H2 → Q v H2) : tIf tA ta tb σ H Q := by
  refine hc _ ?_
  cases b with
  | true => exact ifY rfl (hA rfl Q k)
  | false => exact ifN rfl (hB rfl Q k)
theorem ixN_nat {n p : Nat} (h : p < n) : ixN n (p : Int) = some p := by
  unfold ixN
  rw [if_pos (by omega), if_pos (by omega)]; simp
section
local macro_rules | `(tactic| walk_at "nf") => `(tactic| try dsimp only [tSeq, tAsg, gName, tRet, tRetN, tDrop, tNext, tIfS, tTest, tB, tOp, tUn, tNil, tCons, tCB, tC, tAnd, tOr, tNot, tAndV, tOrV, tNotV, sDPut, sFld, sFldAug, tM0, tM1, tBM, tBM0, tMeth, tCall, sGPut, tGGet, tGNin, tDGet, tDNotIn, tDIn, tFld, tChain])
local macro_rules | `(tactic| walk_at "st") => `(tactic| try dsimp only [wipe, List.set_cons_zero, List.set_cons_succ])
variable {P : Program} {w : World} {K : PySem.W.Frag} {mg : Str → Option Value} {base : Heap}
def spMrg : Sp := fun vs H Q _ => ∃ (Z : Hp) (v1 v2 : V) (n : Nat) (a b : List Nat), vs = [v1, v2] ∧ Same Z H ∧ isL isN Z v1 a ∧ isL isN Z v2 b ∧ Plc n a ∧ Plc n b ∧ n ≤ 13 ∧
  ∀ v Z' H', Gr Z H Z' H' → isL isN Z' v (mrg a b) → Q v H'
abbrev N__merged : List Str := ["one", "two", "place"]
theorem sc__merged : FnScope N__merged ["one", "two"] (defScope (top 25)) := ⟨rfl, rfl, rfl, by decide +kernel, rfl, by decide +kernel, by decide +kernel⟩
theorem ok__merged (T : Txt K mg) : FnOk P w K mg base CX0 1 T.d__merged.f T.d__merged.fd ["one", "two"] spMrg := by
  refine T.d__merged.fn.ok sc__merged (fun vs H Q E h => ?_) (fun cdv A outer s H vs Q E hr h => ?_)
  · obtain ⟨Z, v1, v2, n, a, b, rfl, _⟩ := h
    rfl
  · obtain ⟨Z, v1, v2, n, a, b, rfl, sub, h1, h2, pa, pb, hn, kk⟩ := h
    have hu := hu_of hr
    refine ⟨_, pss_one (ps_ret (pe_callB (call_sortedDI rfl) (by rfl) T.b_sorted (by decide +kernel) (pa_cons (pe_dc (own := [("place", 2)]) rfl sc__merged.nd (pi_listK K rfl (pe_op op_cat (pv 0) (pv 1))) (blkOk_by (N := N__merged) (sc := defScope (top 25)) (by decide +kernel)) (fun _ _ _ _ _ => pg_name (i := 2) sc__merged.nd rfl (.inl rfl) (.inr rfl)) (fun _ _ _ _ _ => pts_nil) (fun _ _ _ _ _ => pv 2) (fun _ _ _ _ _ => pe_bl)) pa_nil))), ?_⟩
    obtain ⟨a1, rfl, e1⟩ := isL_N.mp h1
    obtain ⟨a2, rfl, e2⟩ := isL_N.mp h2
    have la := pa.few
    have lb := pb.few
    have hlt : ∀ x ∈ a ++ b, x < 13 := fun x hx => by
      rcases List.mem_append.mp hx with h | h
      · have := pa.lt x h; omega
      · have := pb.lt x h; omega
    walk_at "nf"
    refine d_list ⟨_, rfl, _, rfl, a1, a2, _, _, rfl, rfl, sub _ _ e1, sub _ _ e2, sz6 (by rw [List.length_map, List.length_map]; omega), fun p hp => ?_⟩
    have g1 : Gr Z H (upd Z p (.lst (vN (a ++ b)))) (upd H p (.lst (vN (a ++ b)))) := (Grow.refl sub).allocZ hp
    have ev : (List.map (fun n : Nat => V.int (n : Int)) a ++ List.map (fun n : Nat => V.int (n : Int)) b) = vN (a ++ b) := by simp [vN]
    rw [ev]
    refine ⟨p, rfl, ⟨_, SqL.of upd_same⟩, ?_⟩
    refine dcomp_it (walk_list (K := K) (a := p) (xs := vN (a ++ b))) (fun i o => ∃ kvs fs, o = .dK kvs ∧ Keys kvs fs ∧ fs.Nodup ∧ ∀ x, x ∈ fs ↔ x ∈ (a ++ b).take i) g1.zh (fun Z1 H1 g => SqL.of (g.keepH upd_same)) ⟨[], [], rfl, rfl, List.nodup_nil, by simp⟩ (fun i x Z1 H1 H2 D o R R0 hi g hD zD dv hy hR hR0 => ?_) (fun D Z' H' o g hD zD hD' dv => ?_)
    · obtain ⟨kvs, fs, rfl, hk, nd, hm⟩ := dv
      obtain ⟨rfl, hx⟩ := YL hy
      have hi' : i < (a ++ b).length := by rw [← show (vN (a ++ b)).length = (a ++ b).length from List.length_map _]; exact hi
      have hx2 := List.getElem?_eq_getElem hi'
      have e : x = V.int (((a ++ b)[i] : Nat) : Int) := by
        rw [vN_get hx2] at hx
        exact (Option.some.inj hx).symm
      subst e
      have fl : fs.length ≤ 13 := by
        have := List.Nodup.length_le_of_subset nd (l₂ := List.range 13) fun x hx => List.mem_range.mpr (hlt x (List.mem_of_mem_take ((hm x).mp hx)))
        rwa [List.length_range] at this
      refine ⟨wipe_set1 (by decide), a_yes (ifY rfl ⟨_, rfl, hR _ _ Z1 H2 (Grow.refl g.zh) fun N hN => ?_⟩)⟩
      refine ⟨kvs, kN (a ++ b)[i], rfl, hD, sz6' (by rw [hk.len]; omega), hN _ ⟨_, insN fs (a ++ b)[i], rfl, hk.put _ _, insN_nodup nd, fun x => ?_⟩⟩
      rw [insN_mem, hm, take_snoc hx2, List.mem_append, List.mem_singleton]
    · obtain ⟨kvs, fs, rfl, hk, nd, hm⟩ := dv
      have hm' : ∀ x, x ∈ fs ↔ x ∈ a ++ b := fun x => by
        rw [hm, show (vN (a ++ b)).length = (a ++ b).length from List.length_map _, List.take_length]
      have fl : fs.length ≤ 13 := by
        have := List.Nodup.length_le_of_subset nd (l₂ := List.range 13) fun x hx => List.mem_range.mpr (hlt x ((hm' x).mp hx))
        rwa [List.length_range] at this
      refine ⟨D, kvs, fs.map fun n : Nat => (n : Int), rfl, Rd.of hD', by rw [hk, List.map_map]; rfl, by rw [List.length_map]; omega, fun ys q hp hs hq => ?_⟩
      have e := srt_is hp hs nd hm' hlt
      subst e
      have ev : (List.map V.int (List.map (fun n : Nat => (n : Int)) (srt (a ++ b)))) = vN (mrg a b) := by rw [List.map_map]; rfl
      rw [ev]
      exact kk _ _ _ ((g1.trans g).allocZ hq) (isL_vN upd_same)
/-- a part -/
def isPart (C : Addr) : Rep Pt := fun Z v p => ∃ x dx vf vl, v = .ref x ∧ Z x = some (.ins C dx [("nullable", .bl p.nul), ("first", vf), ("last", vl)]) ∧ isL isN Z vf p.fst ∧ isL isN Z vl p.lst
instance {C : Addr} : Mono (isPart C) := ⟨fun s ⟨x, dx, vf, vl, e, h, r1, r2⟩ => ⟨x, dx, vf, vl, e, s _ _ h, Mono.mono s r1, Mono.mono s r2⟩⟩
/-- the scanner's table of followers, at af -/
def FolAt (CS : Addr) (Z H : Hp) (x af : Addr) (fo : List (List Nat)) : Prop := ∃ dx v1 v2 v4 v5 v6 vf, H x = some (.ins CS dx [("alphabet", v1), ("marks", v2), ("follow", .ref af), ("frames", v4), ("signs", v5), ("starred", v6)]) ∧ Z af = none ∧ H af = some (.lst vf) ∧ Paired (isL isN Z) vf fo
theorem FolAt.grow {CS : Addr} {Z H Z' H' : Hp} {x af : Addr} {fo : List (List Nat)} (h : FolAt CS Z H x af fo) (g : Gr Z H Z' H') : FolAt CS Z' H' x af fo := by
  obtain ⟨dx, v1, v2, v4, v5, v6, vf, h1, h2, h3, h4⟩ := h
  exact ⟨dx, v1, v2, v4, v5, v6, vf, g.keepH h1, g.keepZ h2 h3, g.keepH h3, Paired.mapP h4 fun _ _ r => Mono.mono g.z r⟩
def spJoin (CS : Addr) : Sp := fun vs H Q _ => ∃ (Z : Hp) (x af : Addr) (vl vf : V) (n : Nat) (fo : List (List Nat)) (last first : List Nat), vs = [.ref x, vl, vf] ∧ Same Z H ∧ FolAt CS Z H x af fo ∧ isL isN Z vl last ∧ isL isN Z vf first ∧ FoOk n fo ∧ Plc n last ∧ Plc n first ∧
  ∀ Z' H', Grow (fun y => y = af) Z H Z' H' → FolAt CS Z' H' x af (joinF fo last first) → Q .non H'
theorem join_snoc (fo : List (List Nat)) (last first : List Nat) (p : Nat) : joinF fo (last ++ [p]) first = (joinF fo last first).set p (mrg ((joinF fo last first).getD p []) first) := by
  unfold joinF
  rw [List.foldl_append]; rfl
abbrev N_Scanner__join : List Str := ["self", "last", "first", "place"]
theorem sc_Scanner__join : FnScope N_Scanner__join ["self", "last", "first"] (defScope (inClass (top 26) 7)) := ⟨rfl, rfl, rfl, by decide +kernel, rfl, by decide +kernel, by decide +kernel⟩
theorem ok_Scanner__join (T : Txt K mg) : FnOk P w K mg base CX0 2 T.m_Scanner__join.f T.m_Scanner__join.fd ["self", "last", "first"] (spJoin T.c_Scanner.C) := by
  refine T.m_Scanner__join.fn.ok sc_Scanner__join (fun vs H Q E h => ?_) (fun cdv A outer s H vs Q E hr h => ?_)
  · obtain ⟨Z, x, af, vl, vf, n, fo, last, first, rfl, _⟩ := h
    rfl
  · obtain ⟨Z, x, af, vl, vf, n, fo, last, first, rfl, sub, hfo, hl, hf, fok, pl, pf, kk⟩ := h
    refine ⟨_, pss_one (ps_for PassesOwn.never rfl (pi_listK K rfl (pv 1)) (pg_name (i := 3) sc_Scanner__join.nd rfl (.inl rfl) (.inl rfl))
  (pss_one (ps_asg (pe_call (ok__merged T) (hr.mono (by decide)) (by rfl) T.d__merged.mg T.d__merged.fn.kp T.d__merged.b .nil pass0 (pa_cons (pe_ix (ix_listK K rfl) (pe_fldK K rfl (pv 0) rfl) (pv 3) (fun _ _ => rfl)) (pa_cons (pv 2) pa_nil))) (pg_sub (pe_fldK K rfl (pv 0) rfl) (pv 3) set_list)))), ?_⟩
    walk_at "nf"
    refine f_list ⟨_, rfl, k_forL (K := K) (Z := Z) hl (fun i σ Hc => ∃ Z1 e3, σ = [some (.ref x), some vl, some vf, e3] ∧ Grow (fun y => y = af) Z H Z1 Hc ∧ FolAt T.c_Scanner.C Z1 Hc x af (joinF fo (last.take i) first)) ⟨Z, none, rfl, Grow.refl sub, hfo⟩ (fun i σ Hc ⟨_, _, _, g, _⟩ => g.z.trans g.zh) ?_ ?_⟩
    · rintro i p wp σ Hc hi pp ⟨Z1, e3, rfl, g, F⟩
      obtain rfl : wp = .int (p : Int) := pp
      have mp := List.mem_of_getElem? hi
      have fok1 : FoOk n (joinF fo (last.take i) first) := fok.join pf
      obtain ⟨dx, v1, v2, v4, v5, v6, ws, h1, h2, h3, h4⟩ := F
      have hpl : p < (joinF fo (last.take i) first).length := by rw [fok1.len]; exact pl.lt p mp
      obtain ⟨wr, hwr, pwr⟩ := pr_r h4 (get_of (d := []) hpl)
      walk_at "nf"
      refine ⟨_, rfl, x, _, dx, _, _, rfl, h1, T.c_Scanner.cl, T.n_Scanner_follow, rfl, _, rfl, x_ixm h3 hwr ⟨_, rfl, ?_⟩⟩
      refine ⟨Z1, wr, vf, n, _, _, rfl, g.zh, pwr, Mono.mono g.z hf, fok1.get p, pf, fok1.few, fun v Z2 H2 g2 hv => ?_⟩
      have h12 := g2.keepH h1
      have h32 := g2.keepH h3
      have z2 := g2.keepZ h2 h3
      refine ⟨_, rfl, x, _, dx, _, _, rfl, h12, T.c_Scanner.cl, T.n_Scanner_follow, rfl, _, rfl, af, ws, _, p, rfl, rfl, h32, ixN_nat (by rw [Paired.length h4]; exact hpl), ?_⟩
      have nxa : x ≠ af := ne_of h12 h32 (fun z => nomatch z)
      refine ⟨Z2, _, rfl, (g.trans (Gr.to g2)).mut (.inr rfl) z2 h32, dx, v1, v2, v4, v5, v6, ws.set p v, by rw [upd_ne nxa]; exact h12, z2, upd_same, ?_⟩
      rw [take_snoc hi, join_snoc]
      exact pr_set hv p (Paired.mapP h4 fun _ _ r => Mono.mono g2.z r)
    · rintro σ Hc ⟨Z1, e3, rfl, g, F⟩
      rw [List.take_length] at F
      exact kk Z1 Hc g F
theorem Gr.fol {CS : Addr} {Z H Z' H' : Hp} {x af : Addr} {fo : List (List Nat)} (g : Gr Z H Z' H') (h : FolAt CS Z H x af fo) : FolAt CS Z' H' x af fo := h.grow g
def spRow (CS CP : Addr) : Sp := fun vs H Q _ => ∃ (Z : Hp) (x af : Addr) (vp : V) (n : Nat) (fo : List (List Nat)) (ps : List Pt), vs = [.ref x, vp] ∧ Same Z H ∧ FolAt CS Z H x af fo ∧ isL (isPart CP) Z vp ps ∧ FoOk n fo ∧ (∀ p ∈ ps, PtOk n p) ∧
  ∀ v Z' H', Grow (fun y => y = af) Z H Z' H' → FolAt CS Z' H' x af (rowF fo ps).1 → isPart CP Z' v (rowF fo ps).2 → Q v H'
abbrev N_Scanner__row : List Str := ["self", "parts", "whole", "part", "first", "last"]
theorem sc_Scanner__row : FnScope N_Scanner__row ["self", "parts"] (defScope (inClass (top 26) 8)) := ⟨rfl, rfl, rfl, by decide +kernel, rfl, by decide +kernel, by decide +kernel⟩
theorem ok_Scanner__row (T : Txt K mg) : FnOk P w K mg base CX0 3 T.m_Scanner__row.f T.m_Scanner__row.fd ["self", "parts"] (spRow T.c_Scanner.C T.c_Part.C) := by
  refine T.m_Scanner__row.fn.ok sc_Scanner__row (fun vs H Q E h => ?_) (fun cdv A outer s H vs Q E hr h => ?_)
  · obtain ⟨Z, x, af, vp, n, fo, ps, rfl, _⟩ := h
    rfl
  · obtain ⟨Z, x, af, vp, n, fo, ps, rfl, sub, hfo, hps, fok, pok, kk⟩ := h
    refine ⟨_, pss_cons (ps_set (i := 2) sc_Scanner__row.nd rfl (.inl rfl) (pe_make T.c_Part.mkc (ok_Part___init__ T) (hr.mono (by decide)) (by rfl) T.c_Part.mg T.c_Part.init.b .nil pass0 (pa_cons (pe_bl) (pa_cons (pe_lst pa_nil) (pa_cons (pe_lst pa_nil) pa_nil)))))
  (pss_cons (ps_for PassesOwn.never rfl (pi_listK K rfl (pv 1)) (pg_name (i := 3) sc_Scanner__row.nd rfl (.inl rfl) (.inl rfl))
  (pss_cons (ps_expr (pe_meth (pv 0) T.c_Scanner.cl T.m_Scanner__join.me (ok_Scanner__join T) (hr.mono (by decide)) T.m_Scanner__join.b .nil pass0 (pa_cons (pe_fldK K rfl (pv 2) rfl) (pa_cons (pe_fldK K rfl (pv 3) rfl) pa_nil))))
  (pss_cons (ps_set (i := 4) sc_Scanner__row.nd rfl (.inl rfl) (pe_ifExp (pt_val (pe_fldK K rfl (pv 2) rfl)) (pe_call (ok__merged T) (hr.mono (by decide)) (by rfl) T.d__merged.mg T.d__merged.fn.kp T.d__merged.b .nil pass0 (pa_cons (pe_fldK K rfl (pv 2) rfl) (pa_cons (pe_fldK K rfl (pv 3) rfl) pa_nil))) (pe_fldK K rfl (pv 2) rfl)))
  (pss_cons (ps_set (i := 5) sc_Scanner__row.nd rfl (.inl rfl) (pe_ifExp (pt_val (pe_fldK K rfl (pv 3) rfl)) (pe_call (ok__merged T) (hr.mono (by decide)) (by rfl) T.d__merged.mg T.d__merged.fn.kp T.d__merged.b .nil pass0 (pa_cons (pe_fldK K rfl (pv 2) rfl) (pa_cons (pe_fldK K rfl (pv 3) rfl) pa_nil))) (pe_fldK K rfl (pv 3) rfl)))
  (pss_one (ps_set (i := 2) sc_Scanner__row.nd rfl (.inl rfl) (pe_make T.c_Part.mkc (ok_Part___init__ T) (hr.mono (by decide)) (by rfl) T.c_Part.mg T.c_Part.init.b .nil pass0 (pa_cons (pe_and (pe_fldK K rfl (pv 2) rfl) (pe_one (pe_fldK K rfl (pv 3) rfl))) (pa_cons (pv 4) (pa_cons (pv 5) pa_nil))))))))))
  (pss_one (ps_ret (pv 2)))), ?_⟩
    walk_at "nf"
    -- whole = Part(True, [], [])
    refine a_new3 (t_C (a_lst0 (x_lstZ sub (by decide) fun t1 Z1 H1 g1 h1 => a_lst0 (x_lstZ g1.zh (by decide) fun t2 Z2 H2 g2 h2 => x_new3 g2.zh fun xw dxw Z3 H3 g3 hxw => ?_))))
    have g13 := (g1.trans g2).trans g3
    refine f_list ⟨_, rfl, k_forL (K := K) (Z := Z) hps (fun i σ Hc => ∃ Z1 vw e3 e4 e5, σ = [some (.ref x), some vp, some vw, e3, e4, e5] ∧ Grow (fun y => y = af) Z H Z1 Hc ∧ FolAt T.c_Scanner.C Z1 Hc x af (rowF fo (ps.take i)).1 ∧ isPart T.c_Part.C Z1 vw (rowF fo (ps.take i)).2)
      ⟨Z3, _, none, none, none, rfl, Gr.to g13, hfo.grow g13, ⟨xw, dxw, _, _, rfl, hxw, isL_vN (xs := []) (g3.z _ _ (g2.z _ _ h1)), isL_vN (xs := []) (g3.z _ _ h2)⟩⟩ (fun i σ Hc ⟨_, _, _, _, _, _, g, _⟩ => g.z.trans g.zh) ?_ ?_⟩
    · rintro i p wp σ Hc hi pp ⟨Z4, vw, e3, e4, e5, rfl, g4, F, hw⟩
      have mp := List.mem_of_getElem? hi
      obtain ⟨fok4, wok⟩ := rowF_ok (ps := ps.take i) fok fun q hq => pok q (List.mem_of_mem_take hq)
      have pk := pok p mp
      have estep : rowF fo (ps.take (i + 1)) = rowS (rowF fo (ps.take i)) p := by
        unfold rowF
        rw [take_snoc hi, List.foldl_append]; rfl
      rw [estep]
      generalize rowF fo (ps.take i) = fw at F hw fok4 wok
      obtain ⟨fo4, wpt⟩ := fw
      obtain ⟨xw, dxw, wf, wl, rfl, hxw, hwf, hwl⟩ := hw
      obtain ⟨xp, dxp, qf, ql, rfl, hxp, hqf, hql⟩ := pp
      obtain ⟨dx, v1, v2, v4, v5, v6, ws, h1, h2, h3, h4⟩ := id F
      walk_at "nf"
      -- self._join(whole.last, part.first)
      refine ⟨_, rfl, x, dx, _, rfl, h1, rfl, _, rfl, xw, _, dxw, _, _, rfl, g4.zh _ _ hxw, T.c_Part.cl, T.n_Part_last, rfl, _, rfl, xp, _, dxp, _, _, rfl, g4.zh _ _ (g4.z _ _ hxp), T.c_Part.cl, T.n_Part_first, rfl, ?_⟩
      refine ⟨Z4, x, af, wl, qf, n, fo4, _, _, rfl, g4.zh, F, hwl, Mono.mono g4.z hqf, fok4, wok.lst, pk.fst, fun Z5 H5 g5 F5 => ?_⟩
      have hxw5 := g5.z _ _ hxw
      have hxp5 := g5.z _ _ (g4.z _ _ hxp)
      have hwf5 := Mono.mono g5.z hwf
      have hwl5 := Mono.mono g5.z hwl
      have hqf5 := Mono.mono (g4.z.trans g5.z) hqf
      have hql5 := Mono.mono (g4.z.trans g5.z) hql
      have fok5 : FoOk n (joinF fo4 wpt.lst p.fst) := fok4.join pk.fst
      -- first
      refine k_ifE wpt.nul (fun v Z2 H2 => Gr Z5 H5 Z2 H2 ∧ isL isN Z2 v (if wpt.nul = true then mrg wpt.fst p.fst else wpt.fst)) (fun R r => ⟨_, rfl, xw, _, dxw, _, _, rfl, g5.zh _ _ hxw5, T.c_Part.cl, T.n_Part_nullable, rfl, _, rfl, r⟩) (fun hb R hR => ?_) (fun hb R hR => ?_) (fun vf Z6 H6 ⟨g6, hvf⟩ => ?_)
      · refine ⟨_, rfl, xw, _, dxw, _, _, rfl, g5.zh _ _ hxw5, T.c_Part.cl, T.n_Part_first, rfl, _, rfl, xp, _, dxp, _, _, rfl, g5.zh _ _ hxp5, T.c_Part.cl, T.n_Part_first, rfl, ?_⟩
        exact ⟨Z5, wf, qf, n, _, _, rfl, g5.zh, hwf5, hqf5, wok.fst, pk.fst, fok.few, fun v Z6 H6 g6 hv => hR v Z6 H6 ⟨g6, by rw [if_pos hb]; exact hv⟩⟩
      · exact ⟨_, rfl, xw, _, dxw, _, _, rfl, g5.zh _ _ hxw5, T.c_Part.cl, T.n_Part_first, rfl, hR wf Z5 H5 ⟨Grow.refl g5.zh, by rw [if_neg (by rw [hb]; exact Bool.false_ne_true)]; exact hwf5⟩⟩
      have hxw6 := g6.z _ _ hxw5
      have hxp6 := g6.z _ _ hxp5
      -- last
      refine k_ifE p.nul (fun v Z2 H2 => Gr Z6 H6 Z2 H2 ∧ isL isN Z2 v (if p.nul = true then mrg wpt.lst p.lst else p.lst)) (fun R r => ⟨_, rfl, xp, _, dxp, _, _, rfl, g6.zh _ _ hxp6, T.c_Part.cl, T.n_Part_nullable, rfl, _, rfl, r⟩) (fun hb R hR => ?_) (fun hb R hR => ?_) (fun vl Z7 H7 ⟨g7, hvl⟩ => ?_)
      · refine ⟨_, rfl, xw, _, dxw, _, _, rfl, g6.zh _ _ hxw6, T.c_Part.cl, T.n_Part_last, rfl, _, rfl, xp, _, dxp, _, _, rfl, g6.zh _ _ hxp6, T.c_Part.cl, T.n_Part_last, rfl, ?_⟩
        exact ⟨Z6, wl, ql, n, _, _, rfl, g6.zh, Mono.mono g6.z hwl5, Mono.mono g6.z hql5, wok.lst, pk.lst, fok.few, fun v Z7 H7 g7 hv => hR v Z7 H7 ⟨g7, by rw [if_pos hb]; exact hv⟩⟩
      · exact ⟨_, rfl, xp, _, dxp, _, _, rfl, g6.zh _ _ hxp6, T.c_Part.cl, T.n_Part_last, rfl, hR ql Z6 H6 ⟨Grow.refl g6.zh, by rw [if_neg (by rw [hb]; exact Bool.false_ne_true)]; exact Mono.mono g6.z hql5⟩⟩
      have hxw7 := g7.z _ _ hxw6
      have hxp7 := g7.z _ _ hxp6
      -- whole = Part(..)
      have fin : ∀ Z8 H8 (xn dxn : Addr), Gr Z7 H7 Z8 H8 → Z8 xn = some (.ins T.c_Part.C dxn [("nullable", .bl (wpt.nul && p.nul)), ("first", vf), ("last", vl)]) → Grow (fun y => y = af) Z H Z8 H8 ∧ FolAt T.c_Scanner.C Z8 H8 x af (rowS (fo4, wpt) p).1 ∧ isPart T.c_Part.C Z8 (.ref xn) (rowS (fo4, wpt) p).2 := fun Z8 H8 xn dxn g8 hxn =>
        ⟨(g4.trans g5).trans (Gr.to ((g6.trans g7).trans g8)), F5.grow ((g6.trans g7).trans g8), xn, dxn, vf, vl, rfl, hxn, Mono.mono (g7.z.trans g8.z) hvf, Mono.mono g8.z hvl⟩
      refine a_new3 ⟨_, rfl, xw, _, dxw, _, _, rfl, g7.zh _ _ hxw7, T.c_Part.cl, T.n_Part_nullable, rfl, wpt.nul, rfl, ?_⟩
      cases hwn : wpt.nul with
      | true =>
        refine ifY rfl ⟨_, rfl, xp, _, dxp, _, _, rfl, g7.zh _ _ hxp7, T.c_Part.cl, T.n_Part_nullable, rfl, _, rfl, _, rfl, x_new3 g7.zh fun xn dxn Z8 H8 g8 hxn => ?_⟩
        obtain ⟨q1, q2, q3⟩ := fin Z8 H8 xn dxn g8 (by rw [hxn, hwn]; rfl)
        exact ⟨Z8, _, _, _, _, rfl, q1, q2, q3⟩
      | false =>
        refine ifN rfl ⟨_, rfl, _, rfl, x_new3 g7.zh fun xn dxn Z8 H8 g8 hxn => ?_⟩
        obtain ⟨q1, q2, q3⟩ := fin Z8 H8 xn dxn g8 (by rw [hxn, hwn]; rfl)
        exact ⟨Z8, _, _, _, _, rfl, q1, q2, q3⟩
    · rintro σ Hc ⟨Z4, vw, e3, e4, e5, rfl, g4, F, hw⟩
      rw [List.take_length] at F hw
      walk_at "nf"
      exact ⟨_, rfl, kk vw Z4 Hc g4 F hw⟩
end
end K87

set_option autoImplicit true
set_option Elab.async false
set_option linter.all false
set_option maxRecDepth 100000
set_option maxHeartbeats 4000000
set_option pp.deepTerms.threshold 6
/-! K87D18: Scanner._choice. -/
namespace K87
open PySem L2 PySem.Spec PyProof.Rows
theorem cut1 (xs : List V) : cutV xs (some ((1 : Nat) : Int)) none = xs.drop 1 := by
  unfold cutV
  rw [HT.sIx_nat, HT.sIx_none]
  cases xs with
  | nil => rfl
  | cons a l =>
    have : min 1 (a :: l).length = 1 := by rw [List.length_cons]; omega
    rw [this]
    exact List.take_of_length_le (by rw [List.length_drop]; exact Nat.le_refl _)
section
local macro_rules | `(tactic| walk_at "nf") => `(tactic| try dsimp only [tSeq, tAsg, gName, tRet, tRetN, tDrop, tNext, tIfS, tTest, tB, tOp, tUn, tNil, tCons, tCB, tC, tAnd, tOr, tNot, tAndV, tOrV, tNotV, sDPut, sFld, sFldAug, tM0, tM1, tBM, tBM0, tMeth, tCall, sGPut, tGGet, tGNin, tDGet, tDNotIn, tDIn, tFld, tChain])
local macro_rules | `(tactic| walk_at "st") => `(tactic| try dsimp only [wipe, List.set_cons_zero, List.set_cons_succ])
variable {P : Program} {w : World} {K : PySem.W.Frag} {mg : Str → Option Value} {base : Heap}
def spCho (CS CP : Addr) : Sp := fun vs H Q _ => ∃ (Z : Hp) (x af : Addr) (vp : V) (n : Nat) (fo : List (List Nat)) (b : List Pt) (bs : List (List Pt)), vs = [.ref x, vp] ∧ Same Z H ∧ FolAt CS Z H x af fo ∧ isL (isL (isPart CP)) Z vp (b :: bs) ∧ bs.length ≤ 1000 ∧ FoOk n fo ∧ (∀ c ∈ b :: bs, ∀ p ∈ c, PtOk n p) ∧
  ∀ v Z' H', Grow (fun y => y = af) Z H Z' H' → FolAt CS Z' H' x af (choF fo (b :: bs)).1 → isPart CP Z' v (choF fo (b :: bs)).2 → Q v H'
abbrev N_Scanner__choice : List Str := ["self", "frame", "whole", "branch", "other", "nullable"]
theorem sc_Scanner__choice : FnScope N_Scanner__choice ["self", "frame"] (defScope (inClass (top 26) 9)) := ⟨rfl, rfl, rfl, by decide +kernel, rfl, by decide +kernel, by decide +kernel⟩
theorem ok_Scanner__choice (T : Txt K mg) : FnOk P w K mg base CX0 4 T.m_Scanner__choice.f T.m_Scanner__choice.fd ["self", "frame"] (spCho T.c_Scanner.C T.c_Part.C) := by
  refine T.m_Scanner__choice.fn.ok sc_Scanner__choice (fun vs H Q E h => ?_) (fun cdv A outer s H vs Q E hr h => ?_)
  · obtain ⟨Z, x, af, vp, n, fo, b, bs, rfl, _⟩ := h
    rfl
  · obtain ⟨Z, x, af, vp, n, fo, b, bs, rfl, sub, F0, hfr, hbl, fok, pok, kk⟩ := h
    refine ⟨_, pss_cons (ps_set (i := 2) sc_Scanner__choice.nd rfl (.inl rfl) (pe_meth (pv 0) T.c_Scanner.cl T.m_Scanner__row.me (ok_Scanner__row T) (hr.mono (by decide)) T.m_Scanner__row.b .nil pass0 (pa_cons (pe_ix (ix_listK K rfl) (pv 1) (pe_int) (fun _ _ => rfl)) pa_nil)))
  (pss_cons (ps_for PassesOwn.never rfl (pi_listK K rfl (pe_slice (sl_listK K rfl) (pv 1) (po_some (pe_int)) po_none)) (pg_name (i := 3) sc_Scanner__choice.nd rfl (.inl rfl) (.inl rfl))
  (pss_cons (ps_set (i := 4) sc_Scanner__choice.nd rfl (.inl rfl) (pe_meth (pv 0) T.c_Scanner.cl T.m_Scanner__row.me (ok_Scanner__row T) (hr.mono (by decide)) T.m_Scanner__row.b .nil pass0 (pa_cons (pv 3) pa_nil)))
  (pss_cons (ps_set (i := 5) sc_Scanner__choice.nd rfl (.inl rfl) (pe_or (pe_fldK K rfl (pv 2) rfl) (pe_one (pe_fldK K rfl (pv 4) rfl))))
  (pss_one (ps_set (i := 2) sc_Scanner__choice.nd rfl (.inl rfl) (pe_make T.c_Part.mkc (ok_Part___init__ T) (hr.mono (by decide)) (by rfl) T.c_Part.mg T.c_Part.init.b .nil pass0 (pa_cons (pv 5) (pa_cons (pe_call (ok__merged T) (hr.mono (by decide)) (by rfl) T.d__merged.mg T.d__merged.fn.kp T.d__merged.b .nil pass0 (pa_cons (pe_fldK K rfl (pv 2) rfl) (pa_cons (pe_fldK K rfl (pv 4) rfl) pa_nil))) (pa_cons (pe_call (ok__merged T) (hr.mono (by decide)) (by rfl) T.d__merged.mg T.d__merged.fn.kp T.d__merged.b .nil pass0 (pa_cons (pe_fldK K rfl (pv 2) rfl) (pa_cons (pe_fldK K rfl (pv 4) rfl) pa_nil))) pa_nil)))))))))
  (pss_one (ps_ret (pv 2)))), ?_⟩
    obtain ⟨dx0, u1, u2, u4, u5, u6, us, q1, q2, q3, q4⟩ := id F0
    walk_at "nf"
    -- whole = self._row(frame[0])
    refine ⟨_, rfl, x, dx0, _, rfl, q1, rfl, _, rfl, x_ix (i := 0) hfr sub rfl fun wb hwb => ?_⟩
    refine ⟨Z, x, af, wb, n, fo, b, rfl, sub, F0, hwb, fok, pok b List.mem_cons_self, fun vw0 Z1 H1 g1 F1 hw1 => ?_⟩
    -- for branch in frame[1:]
    obtain ⟨afr, ws, rfl, hafr, pws⟩ := hfr
    refine f_list ⟨_, rfl, ((1 : Nat) : Int), rfl, afr, ws, rfl, SqL.of (g1.zh _ _ (g1.z _ _ hafr)), fun p hp => ?_⟩
    rw [cut1]
    have g2 := g1.allocZ (o := .lst (ws.drop 1)) hp
    have s12 : Same Z1 (upd Z1 p (.lst (ws.drop 1))) := same_upd (g1.zh.free hp)
    have gp : Gr Z1 H1 (upd Z1 p (.lst (ws.drop 1))) (upd H1 p (.lst (ws.drop 1))) := (Grow.refl g1.zh).allocZ hp
    have hbs : isL (isL (isPart T.c_Part.C)) (upd Z1 p (.lst (ws.drop 1))) (.ref p) bs := ⟨p, _, rfl, upd_same, Paired.mapP (pr_drop 1 pws) fun _ _ r => Mono.mono g2.z r⟩
    refine k_forL (K := K) (Z := upd Z1 p (.lst (ws.drop 1))) hbs (fun i σ Hc => ∃ Z3 vw e3 e4 e5, σ = [some (.ref x), some (.ref afr), some vw, e3, e4, e5] ∧ Grow (fun y => y = af) Z H Z3 Hc ∧ Same (upd Z1 p (.lst (ws.drop 1))) Z3 ∧ FolAt T.c_Scanner.C Z3 Hc x af ((bs.take i).foldl chS (rowF fo b)).1 ∧ isPart T.c_Part.C Z3 vw ((bs.take i).foldl chS (rowF fo b)).2)
      ⟨_, vw0, none, none, none, rfl, g2, Same.refl _, F1.grow gp, Mono.mono s12 hw1⟩ (fun i σ Hc ⟨_, _, _, _, _, _, g, s, _⟩ => s.trans g.zh) ?_ ?_
    · rintro i c wc σ Hc hi pc ⟨Z3, vw, e3, e4, e5, rfl, g3, s3, F3, hw3⟩
      have mc := List.mem_of_getElem? hi
      obtain ⟨fokb, wokb⟩ := rowF_ok (ps := b) fok (pok b List.mem_cons_self)
      obtain ⟨fok3, wok3⟩ := ch_ok (bs := bs.take i) fokb wokb fun q hq => pok q (List.mem_cons_of_mem _ (List.mem_of_mem_take hq))
      have estep : (bs.take (i + 1)).foldl chS (rowF fo b) = chS ((bs.take i).foldl chS (rowF fo b)) c := by
        rw [take_snoc hi, List.foldl_append]; rfl
      rw [estep]
      generalize (bs.take i).foldl chS (rowF fo b) = fw at F3 hw3 fok3 wok3
      obtain ⟨fo3, wpt⟩ := fw
      obtain ⟨dx, v1, v2, v4, v5, v6, wsf, h1, h2, h3, h4⟩ := id F3
      have pokc := pok c (List.mem_cons_of_mem _ mc)
      obtain ⟨fok4, wok4⟩ := rowF_ok (ps := c) fok3 pokc
      walk_at "nf"
      -- other = self._row(branch)
      refine ⟨_, rfl, x, dx, _, rfl, h1, rfl, _, rfl, Z3, x, af, wc, n, fo3, c, rfl, g3.zh, F3, Mono.mono s3 pc, fok3, pokc, fun vo Z4 H4 g4 F4 ho4 => ?_⟩
      obtain ⟨xw, dxw, wf, wl, rfl, hxw, hwf, hwl⟩ := hw3
      obtain ⟨xo, dxo, qf, ql, rfl, hxo, hqf, hql⟩ := ho4
      have hxw4 := g4.z _ _ hxw
      -- nullable = whole.nullable or other.nullable
      have fin : ∀ nb : Bool, nb = (wpt.nul || (rowF fo3 c).2.nul) → ∀ Z5 H5 (R : VK), Gr Z4 H4 Z5 H5 → (∀ Z8 H8 xn dxn vf vl, Gr Z5 H5 Z8 H8 → Z8 xn = some (.ins T.c_Part.C dxn [("nullable", .bl nb), ("first", vf), ("last", vl)]) → isL isN Z8 vf (mrg wpt.fst (rowF fo3 c).2.fst) → isL isN Z8 vl (mrg wpt.lst (rowF fo3 c).2.lst) → R (.ref xn) H8) →
          tMake T.c_Part.C (spNew3 T.c_Part.C "nullable" "first" "last") [] E0 (tCons (tVar 5) (tCons (tCall spMrg [] E0 (tCons (tFld K (tVar 2) "first") (tCons (tFld K (tVar 4) "first") tNil))) (tCons (tCall spMrg [] E0 (tCons (tFld K (tVar 2) "last") (tCons (tFld K (tVar 4) "last") tNil))) tNil))) [some (.ref x), some (.ref afr), some (.ref xw), some wc, some (.ref xo), some (.bl nb)] H5 R := by
        intro nb hnb Z5 H5 R g5 hR
        have hxw5 := g5.z _ _ hxw4
        have hxo5 := g5.z _ _ hxo
        refine a_new3 ⟨_, rfl, _, rfl, xw, _, dxw, _, _, rfl, g5.zh _ _ hxw5, T.c_Part.cl, T.n_Part_first, rfl, _, rfl, xo, _, dxo, _, _, rfl, g5.zh _ _ hxo5, T.c_Part.cl, T.n_Part_first, rfl, ?_⟩
        refine ⟨Z5, wf, qf, n, _, _, rfl, g5.zh, Mono.mono (g4.z.trans g5.z) hwf, Mono.mono g5.z hqf, wok3.fst, wok4.fst, fok.few, fun vf Z6 H6 g6 hvf => ?_⟩
        refine ⟨_, rfl, xw, _, dxw, _, _, rfl, g6.zh _ _ (g6.z _ _ hxw5), T.c_Part.cl, T.n_Part_last, rfl, _, rfl, xo, _, dxo, _, _, rfl, g6.zh _ _ (g6.z _ _ hxo5), T.c_Part.cl, T.n_Part_last, rfl, ?_⟩
        refine ⟨Z6, wl, ql, n, _, _, rfl, g6.zh, Mono.mono ((g4.z.trans g5.z).trans g6.z) hwl, Mono.mono (g5.z.trans g6.z) hql, wok3.lst, wok4.lst, fok.few, fun vl Z7 H7 g7 hvl => ?_⟩
        exact x_new3 g7.zh fun xn dxn Z8 H8 g8 hxn => hR Z8 H8 xn dxn vf vl ((g6.trans g7).trans g8) hxn (Mono.mono (g7.z.trans g8.z) hvf) (Mono.mono g8.z hvl)
      have fin2 : ∀ nb : Bool, nb = (wpt.nul || (rowF fo3 c).2.nul) → ∀ Z8 H8 xn dxn vf vl, Gr Z4 H4 Z8 H8 → Z8 xn = some (.ins T.c_Part.C dxn [("nullable", .bl nb), ("first", vf), ("last", vl)]) → isL isN Z8 vf (mrg wpt.fst (rowF fo3 c).2.fst) → isL isN Z8 vl (mrg wpt.lst (rowF fo3 c).2.lst) →
          ∃ Z3 vw e3 e4 e5, [some (.ref x), some (.ref afr), some (.ref xn), some wc, some (.ref xo), some (.bl nb)] = [some (.ref x), some (.ref afr), some vw, e3, e4, e5] ∧ Grow (fun y => y = af) Z H Z3 H8 ∧ Same (upd Z1 p (.lst (ws.drop 1))) Z3 ∧ FolAt T.c_Scanner.C Z3 H8 x af (chS (fo3, wpt) c).1 ∧ isPart T.c_Part.C Z3 vw (chS (fo3, wpt) c).2 := fun nb hnb Z8 H8 xn dxn vf vl g8 hxn hvf hvl =>
        ⟨Z8, .ref xn, _, _, _, rfl, (g3.trans g4).trans (Gr.to g8), (s3.trans g4.z).trans g8.z, F4.grow g8, xn, dxn, vf, vl, rfl, by rw [hxn, hnb]; rfl, hvf, hvl⟩
      refine ⟨_, rfl, xw, _, dxw, _, _, rfl, g4.zh _ _ hxw4, T.c_Part.cl, T.n_Part_nullable, rfl, wpt.nul, rfl, ?_⟩
      cases hwn : wpt.nul with
      | true =>
        have hnb : true = (wpt.nul || (rowF fo3 c).2.nul) := by rw [hwn]; rfl
        exact ifY rfl (fin true hnb Z4 H4 _ (Grow.refl g4.zh) fun Z8 H8 xn dxn vf vl g8 hxn hvf hvl => fin2 true hnb Z8 H8 xn dxn vf vl g8 hxn hvf hvl)
      | false =>
        have hnb : (rowF fo3 c).2.nul = (wpt.nul || (rowF fo3 c).2.nul) := by rw [hwn]; rfl
        refine ifN rfl ⟨_, rfl, xo, _, dxo, _, _, rfl, g4.zh _ _ hxo, T.c_Part.cl, T.n_Part_nullable, rfl, ?_⟩
        exact fin _ hnb Z4 H4 _ (Grow.refl g4.zh) fun Z8 H8 xn dxn vf vl g8 hxn hvf hvl => fin2 _ hnb Z8 H8 xn dxn vf vl g8 hxn hvf hvl
    · rintro σ Hc ⟨Z3, vw, e3, e4, e5, rfl, g3, s3, F3, hw3⟩
      rw [List.take_length] at F3 hw3
      walk_at "nf"
      exact ⟨_, rfl, kk vw Z3 Hc g3 F3 hw3⟩
end
end K87

set_option autoImplicit true
set_option Elab.async false
set_option linter.all false
set_option maxRecDepth 100000
set_option maxHeartbeats 4000000
set_option pp.deepTerms.threshold 6
/-! K87D19: how a scanner stands in the heap. -/
namespace K87
open PySem L2 PySem.Spec PyProof.Rows
inductive Role where
  | self | marks | follow | frames
  | frame (i : Nat)
  | branch (i j : Nat)
deriving DecidableEq
abbrev Ro := Addr → Option Role
def vM : Option Nat → V
  | none => .non
  | some n => .int (n : Int)
def BrAt (CP : Addr) (ro : Ro) (Z H : Hp) (i j : Nat) (v : V) (ps : List Pt) : Prop := ∃ ba vs, v = .ref ba ∧ ro ba = some (.branch i j) ∧ H ba = some (.lst vs) ∧ Paired (isPart CP Z) vs ps
def FrAt (CP : Addr) (ro : Ro) (Z H : Hp) (i : Nat) (v : V) (bs : List (List Pt)) (ps : List Pt) : Prop := ∃ fa wb wt, v = .ref fa ∧ ro fa = some (.frame i) ∧ H fa = some (.lst (wb ++ [wt])) ∧ wb.length = bs.length ∧
  (∀ (j : Nat) w b, wb[j]? = some w → bs[j]? = some b → BrAt CP ro Z H i j w b) ∧ BrAt CP ro Z H i bs.length wt ps
def Stk (CP : Addr) (ro : Ro) (Z H : Hp) : List V → List (List (List Pt) × List Pt) → Prop
  | vs, [] => vs = []
  | vs, f :: fs => ∃ vs' v, vs = vs' ++ [v] ∧ FrAt CP ro Z H fs.length v f.1 f.2 ∧ Stk CP ro Z H vs' fs
def OfF (i : Nat) (r : Role) : Prop := r = .frame i ∨ ∃ j, r = .branch i j
/-- the things of the roles C are as they were -/
structure Kp (C : Role → Prop) (ro ro' : Ro) (Z H Z' H' : Hp) : Prop where
  z : Same Z Z'
  k : ∀ b r o, ro b = some r → C r → H b = some o → ro' b = some r ∧ H' b = some o
section
variable {CP : Addr} {C : Role → Prop} {ro ro' : Ro} {Z H Z' H' : Hp} {i j : Nat} {v : V} {ps : List Pt} {bs : List (List Pt)}
theorem BrAt.kp (h : BrAt CP ro Z H i j v ps) (k : Kp C ro ro' Z H Z' H') (hc : C (.branch i j)) : BrAt CP ro' Z' H' i j v ps := by
  obtain ⟨ba, vs, e, r, hb, pr⟩ := h
  obtain ⟨r', hb'⟩ := k.k _ _ _ r hc hb
  exact ⟨ba, vs, e, r', hb', Paired.mapP pr fun _ _ q => Mono.mono k.z q⟩
theorem FrAt.kp (h : FrAt CP ro Z H i v bs ps) (k : Kp C ro ro' Z H Z' H') (hc : ∀ r, OfF i r → C r) : FrAt CP ro' Z' H' i v bs ps := by
  obtain ⟨fa, wb, wt, e, r, hb, hl, h1, h2⟩ := h
  obtain ⟨r', hb'⟩ := k.k _ _ _ r (hc _ (.inl rfl)) hb
  exact ⟨fa, wb, wt, e, r', hb', hl, fun j w b e1 e2 => (h1 j w b e1 e2).kp k (hc _ (.inr ⟨_, rfl⟩)), h2.kp k (hc _ (.inr ⟨_, rfl⟩))⟩
theorem Stk.kp (k : Kp C ro ro' Z H Z' H') : ∀ {fs : List (List (List Pt) × List Pt)} {vs : List V}, Stk CP ro Z H vs fs → (∀ i r, i < fs.length → OfF i r → C r) → Stk CP ro' Z' H' vs fs
  | [], _, h, _ => h
  | f :: fs, vs, ⟨vs', v, e, h1, h2⟩, hc => ⟨vs', v, e, h1.kp k fun r hr => hc _ r (by rw [List.length_cons]; omega) hr, Stk.kp k h2 fun i r hi hr => hc i r (by rw [List.length_cons]; omega) hr⟩
theorem Kp.gr (g : Gr Z H Z' H') : Kp (fun _ => True) ro ro Z H Z' H' := ⟨g.z, fun b r o h _ e => ⟨h, g.keepH e⟩⟩
theorem ro_ne {a b : Addr} {r r' : Role} (h : ro a = some r) (h' : ro b = some r') (ne : r ≠ r') : a ≠ b := by
  rintro rfl
  rw [h] at h'
  exact ne (Option.some.inj h')
theorem Kp.upd {l : Addr} {r0 : Role} {o : HO} (hl : ro l = some r0) : Kp (fun r => r ≠ r0) ro ro Z H Z (L2.upd H l o) := ⟨Same.refl _, fun b r u h c e => ⟨h, by rw [upd_ne (ro_ne h hl c)]; exact e⟩⟩
def setR (ro : Ro) (p : Addr) (r : Role) : Ro := fun b => if b = p then some r else ro b
theorem setR_same {p : Addr} {r : Role} : setR ro p r p = some r := by unfold setR; rw [if_pos rfl]
theorem setR_ne {p b : Addr} {r : Role} (h : b ≠ p) : setR ro p r b = ro b := by unfold setR; rw [if_neg h]
theorem Kp.new {p : Addr} {r : Role} {o : HO} (hp : H p = none) : Kp (fun _ => True) ro (setR ro p r) Z H Z (L2.upd H p o) :=
  ⟨Same.refl _, fun b r u h _ e => ⟨by rw [setR_ne (ne_of_none e hp)]; exact h, by rw [upd_ne (ne_of_none e hp)]; exact e⟩⟩
end
structure ScR (CS CP : Addr) (Z0 H0 : Hp) (x : Addr) (a : Str) (ro : Ro) (dx am af ar : Addr) (s : Sc) (Z H : Hp) : Prop where
  gr : Gr Z0 H0 Z H
  own : ∀ b r, ro b = some r → H0 b = none ∧ Z b = none ∧ ∃ o, H b = some o
  rx : ro x = some .self
  rm : ro am = some .marks
  rf : ro af = some .follow
  rr : ro ar = some .frames
  hx : H x = some (.ins CS dx [("alphabet", .str a), ("marks", .ref am), ("follow", .ref af), ("frames", .ref ar), ("signs", .int (s.signs : Int)), ("starred", .bl s.starred)])
  hm : H am = some (.lst (s.marks.map vM))
  hf : ∃ vf, H af = some (.lst vf) ∧ Paired (isL isN Z) vf s.follow
  hr : ∃ vs vt, H ar = some (.lst (vs ++ [vt])) ∧ vs.length = s.fs.length ∧ Stk CP ro Z H vs s.fs ∧ FrAt CP ro Z H s.fs.length vt s.bs s.ps
def ScAt (CS CP : Addr) (Z0 H0 : Hp) (x : Addr) (a : Str) (s : Sc) (Z H : Hp) : Prop := ∃ ro dx am af ar, ScR CS CP Z0 H0 x a ro dx am af ar s Z H
theorem own_upd {H0 Z H : Hp} {ro : Ro} {l : Addr} {o : HO} (h : ∀ b r, ro b = some r → H0 b = none ∧ Z b = none ∧ ∃ o, H b = some o) : ∀ b r, ro b = some r → H0 b = none ∧ Z b = none ∧ ∃ o', (upd H l o) b = some o' := fun b r e => by
  obtain ⟨h1, h2, u, h3⟩ := h b r e
  refine ⟨h1, h2, ?_⟩
  by_cases c : b = l
  · subst c; exact ⟨o, upd_same⟩
  · exact ⟨u, by rw [upd_ne c]; exact h3⟩
theorem own_new {H0 Z H : Hp} {ro : Ro} {p : Addr} {o : HO} {r0 : Role} (h : ∀ b r, ro b = some r → H0 b = none ∧ Z b = none ∧ ∃ o, H b = some o) (h0 : H0 p = none) (hz : Z p = none) : ∀ b r, setR ro p r0 b = some r → H0 b = none ∧ Z b = none ∧ ∃ o', (upd H p o) b = some o' := fun b r e => by
  by_cases c : b = p
  · subst c; exact ⟨h0, hz, o, upd_same⟩
  · rw [setR_ne c] at e
    obtain ⟨h1, h2, u, h3⟩ := h b r e
    exact ⟨h1, h2, u, by rw [upd_ne c]; exact h3⟩
theorem paired_at {α β : Type} {F : α → β → Prop} : ∀ {vs : List α} {xs : List β}, vs.length = xs.length → (∀ (j : Nat) v x, vs[j]? = some v → xs[j]? = some x → F v x) → Paired F vs xs
  | [], [], _, _ => .nil
  | [], _ :: _, h, _ => by simp at h
  | _ :: _, [], h, _ => by simp at h
  | v :: vs, x :: xs, h, f => .cons (f 0 v x rfl rfl) (paired_at (by simpa using h) fun j v x e1 e2 => f (j + 1) v x (by simpa using e1) (by simpa using e2))
/-- the frame n of the stack: its things -/
def ofB (n : Nat) : Option Role → Bool
  | some (.frame i) => decide (i = n)
  | some (.branch i _) => decide (i = n)
  | _ => false
theorem ofB_iff {n : Nat} {r : Role} : ofB n (some r) = true ↔ OfF n r := by
  unfold OfF
  cases r with
  | frame i => simp [ofB]
  | branch i j =>
    simp only [ofB, decide_eq_true_eq]
    exact ⟨fun e => .inr ⟨j, by rw [e]⟩, fun h => by rcases h with h | ⟨k, h⟩ <;> injection h⟩
  | self => simp [ofB]
  | marks => simp [ofB]
  | follow => simp [ofB]
  | frames => simp [ofB]
def frzZ (n : Nat) (ro : Ro) (Z H : Hp) : Hp := fun b => if ofB n (ro b) = true then H b else Z b
def frzR (n : Nat) (ro : Ro) : Ro := fun b => if ofB n (ro b) = true then none else ro b
section
variable {CS CP : Addr} {Z0 H0 Z H Z' H' : Hp} {x dx am af ar : Addr} {a : Str} {ro : Ro} {s : Sc}
theorem ScR.grow (R : ScR CS CP Z0 H0 x a ro dx am af ar s Z H) (g : Gr Z H Z' H') : ScR CS CP Z0 H0 x a ro dx am af ar s Z' H' := by
  obtain ⟨vf, f1, f2⟩ := R.hf
  obtain ⟨vs, vt, r1, r2, r3, r4⟩ := R.hr
  refine ⟨R.gr.trans g, fun b r h => ?_, R.rx, R.rm, R.rf, R.rr, g.keepH R.hx, g.keepH R.hm, ⟨vf, g.keepH f1, Paired.mapP f2 fun _ _ q => Mono.mono g.z q⟩, ⟨vs, vt, g.keepH r1, r2, r3.kp (Kp.gr g) (fun _ _ _ _ => trivial), r4.kp (Kp.gr g) fun _ _ => trivial⟩⟩
  obtain ⟨h1, h2, u, h3⟩ := R.own b r h
  exact ⟨h1, g.keepZ h2 h3, u, g.keepH h3⟩
theorem ScR.fol (R : ScR CS CP Z0 H0 x a ro dx am af ar s Z H) : FolAt CS Z H x af s.follow := by
  obtain ⟨vf, f1, f2⟩ := R.hf
  exact ⟨dx, _, _, _, _, _, vf, R.hx, (R.own _ _ R.rf).2.1, f1, f2⟩
theorem ScR.follow (R : ScR CS CP Z0 H0 x a ro dx am af ar s Z H) (g : Grow (fun y => y = af) Z H Z' H') {fo : List (List Nat)} (F : FolAt CS Z' H' x af fo) : ScR CS CP Z0 H0 x a ro dx am af ar { s with follow := fo } Z' H' := by
  obtain ⟨vs, vt, r1, r2, r3, r4⟩ := R.hr
  obtain ⟨dx', v1, v2, v4, v5, v6, vf, h1, h2, h3, h4⟩ := F
  have kp : Kp (fun r => r ≠ .follow) ro ro Z H Z' H' := ⟨g.z, fun b r o h c e => ⟨h, g.h b o (fun z => by subst z; rw [R.rf] at h; exact c (Option.some.inj h).symm) e⟩⟩
  refine ⟨Grow.fresh R.gr g fun b e => by subst e; exact (R.own _ _ R.rf).1, fun b r h => ?_, R.rx, R.rm, R.rf, R.rr, (kp.k _ _ _ R.rx (by decide) R.hx).2, (kp.k _ _ _ R.rm (by decide) R.hm).2, ⟨vf, h3, h4⟩,
    ⟨vs, vt, (kp.k _ _ _ R.rr (by decide) r1).2, r2, r3.kp kp (fun i r _ hr => by rcases hr with rfl | ⟨j, rfl⟩ <;> exact fun z => nomatch z), r4.kp kp (fun r hr => by rcases hr with rfl | ⟨j, rfl⟩ <;> exact fun z => nomatch z)⟩⟩
  obtain ⟨q1, q2, u, q3⟩ := R.own b r h
  exact ⟨q1, g.keepZ q2 q3, g.dom _ _ q3⟩
/-- the scanner's own fields -/
theorem ScR.self (R : ScR CS CP Z0 H0 x a ro dx am af ar s Z H) (n : Nat) (b : Bool) : ScR CS CP Z0 H0 x a ro dx am af ar { s with signs := n, starred := b } Z (upd H x (.ins CS dx [("alphabet", .str a), ("marks", .ref am), ("follow", .ref af), ("frames", .ref ar), ("signs", .int (n : Int)), ("starred", .bl b)])) := by
  obtain ⟨vf, f1, f2⟩ := R.hf
  obtain ⟨vs, vt, r1, r2, r3, r4⟩ := R.hr
  have ow := R.own _ _ R.rx
  have kp : ∀ {o : HO}, Kp (fun r => r ≠ .self) ro ro Z H Z (upd H x o) := Kp.upd R.rx
  refine ⟨R.gr.mut (.inl ow.1) ow.2.1 R.hx, own_upd R.own, R.rx, R.rm, R.rf, R.rr, upd_same, (kp.k _ _ _ R.rm (by decide) R.hm).2, ⟨vf, (kp.k _ _ _ R.rf (by decide) f1).2, f2⟩,
    ⟨vs, vt, (kp.k _ _ _ R.rr (by decide) r1).2, r2, r3.kp kp (fun i r _ hr => by rcases hr with rfl | ⟨j, rfl⟩ <;> exact fun z => nomatch z), r4.kp kp (fun r hr => by rcases hr with rfl | ⟨j, rfl⟩ <;> exact fun z => nomatch z)⟩⟩
/-- a mark more -/
theorem ScR.mark (R : ScR CS CP Z0 H0 x a ro dx am af ar s Z H) (m : Option Nat) : ScR CS CP Z0 H0 x a ro dx am af ar { s with marks := s.marks ++ [m] } Z (upd H am (.lst (s.marks.map vM ++ [vM m]))) := by
  obtain ⟨vf, f1, f2⟩ := R.hf
  obtain ⟨vs, vt, r1, r2, r3, r4⟩ := R.hr
  have ow := R.own _ _ R.rm
  have kp : ∀ {o : HO}, Kp (fun r => r ≠ .marks) ro ro Z H Z (upd H am o) := Kp.upd R.rm
  refine ⟨R.gr.mut (.inl ow.1) ow.2.1 R.hm, own_upd R.own, R.rx, R.rm, R.rf, R.rr, (kp.k _ _ _ R.rx (by decide) R.hx).2, by rw [upd_same, List.map_append]; rfl, ⟨vf, (kp.k _ _ _ R.rf (by decide) f1).2, f2⟩,
    ⟨vs, vt, (kp.k _ _ _ R.rr (by decide) r1).2, r2, r3.kp kp (fun i r _ hr => by rcases hr with rfl | ⟨j, rfl⟩ <;> exact fun z => nomatch z), r4.kp kp (fun r hr => by rcases hr with rfl | ⟨j, rfl⟩ <;> exact fun z => nomatch z)⟩⟩
/-- a place's followers more -/
theorem ScR.folAdd (R : ScR CS CP Z0 H0 x a ro dx am af ar s Z H) {p : Addr} (hp : Z p = some (.lst [])) {vf : List V} (f1 : H af = some (.lst vf)) (f2 : Paired (isL isN Z) vf s.follow) :
    ScR CS CP Z0 H0 x a ro dx am af ar { s with follow := s.follow ++ [[]] } Z (upd H af (.lst (vf ++ [.ref p]))) := by
  obtain ⟨vs, vt, r1, r2, r3, r4⟩ := R.hr
  have ow := R.own _ _ R.rf
  have kp : ∀ {o : HO}, Kp (fun r => r ≠ .follow) ro ro Z H Z (upd H af o) := Kp.upd R.rf
  refine ⟨R.gr.mut (.inl ow.1) ow.2.1 f1, own_upd R.own, R.rx, R.rm, R.rf, R.rr, (kp.k _ _ _ R.rx (by decide) R.hx).2, (kp.k _ _ _ R.rm (by decide) R.hm).2, ⟨_, upd_same, Paired.snoc f2 (isL_vN (xs := []) hp)⟩,
    ⟨vs, vt, (kp.k _ _ _ R.rr (by decide) r1).2, r2, r3.kp kp (fun i r _ hr => by rcases hr with rfl | ⟨j, rfl⟩ <;> exact fun z => nomatch z), r4.kp kp (fun r hr => by rcases hr with rfl | ⟨j, rfl⟩ <;> exact fun z => nomatch z)⟩⟩
/-- the top branch: what it holds, and that it may be written anew -/
theorem ScR.topB (R : ScR CS CP Z0 H0 x a ro dx am af ar s Z H) : ∃ vs fa wb ba vp, H ar = some (.lst (vs ++ [.ref fa])) ∧ vs.length = s.fs.length ∧ H fa = some (.lst (wb ++ [.ref ba])) ∧ wb.length = s.bs.length ∧ H ba = some (.lst vp) ∧ Paired (isPart CP Z) vp s.ps ∧
    ∀ vp' ps', Paired (isPart CP Z) vp' ps' → ScR CS CP Z0 H0 x a ro dx am af ar { s with ps := ps' } Z (upd H ba (.lst vp')) := by
  obtain ⟨vf, f1, f2⟩ := R.hf
  obtain ⟨vs, vt, r1, r2, r3, fa, wb, wt, rfl, q1, q2, q3, q4, ba, vp, rfl, q5, q6, q7⟩ := R.hr
  refine ⟨vs, fa, wb, ba, vp, r1, r2, q2, q3, q6, q7, fun vp' ps' pr => ?_⟩
  have ow := R.own _ _ q5
  have kp : ∀ {o : HO}, Kp (fun r => r ≠ .branch s.fs.length s.bs.length) ro ro Z H Z (upd H ba o) := Kp.upd q5
  refine ⟨R.gr.mut (.inl ow.1) ow.2.1 q6, own_upd R.own, R.rx, R.rm, R.rf, R.rr, (kp.k _ _ _ R.rx (fun z => nomatch z) R.hx).2, (kp.k _ _ _ R.rm (fun z => nomatch z) R.hm).2, ⟨vf, (kp.k _ _ _ R.rf (fun z => nomatch z) f1).2, f2⟩,
    ⟨vs, _, (kp.k _ _ _ R.rr (fun z => nomatch z) r1).2, r2, r3.kp kp (fun i r hi hr => ?_), fa, wb, _, rfl, q1, (kp.k _ _ _ q1 (fun z => nomatch z) q2).2, q3, fun j w b e1 e2 => (q4 j w b e1 e2).kp kp fun z => ?_, ba, vp', rfl, q5, upd_same, pr⟩⟩
  · rcases hr with rfl | ⟨j, rfl⟩
    · exact fun z => nomatch z
    · intro z; injection z with z _; omega
  · injection z with _ z
    have := (List.getElem?_eq_some_iff.mp e1).1
    omega
/-- a branch more in the top frame -/
theorem ScR.branch (R : ScR CS CP Z0 H0 x a ro dx am af ar s Z H) {vs wb : List V} {fa p : Addr} (h1 : H ar = some (.lst (vs ++ [.ref fa]))) (h2 : H fa = some (.lst wb)) (hp : H p = none) :
    ∃ ro', ScR CS CP Z0 H0 x a ro' dx am af ar { s with bs := s.bs ++ [s.ps], ps := [] } Z (upd (upd H p (.lst [])) fa (.lst (wb ++ [.ref p]))) := by
  obtain ⟨vf, f1, f2⟩ := R.hf
  obtain ⟨vs', vt, r1, r2, r3, fa', wb', wt, rfl, q1, q2, q3, q4, q5⟩ := R.hr
  rw [h1] at r1
  have e1 : vs ++ [V.ref fa] = vs' ++ [V.ref fa'] := by injection r1 with r1; injection r1
  obtain ⟨rfl, e2⟩ := List.append_inj' e1 rfl
  have e3 : fa = fa' := by injection e2 with e2; injection e2
  subst e3
  rw [h2] at q2
  have e4 : wb = wb' ++ [wt] := by injection q2 with q2; injection q2
  subst e4
  have zp : Z p = none := R.gr.zh.free hp
  have k1 : ∀ {o : HO}, Kp (fun _ => True) ro (setR ro p (.branch s.fs.length (s.bs.length + 1))) Z H Z (upd H p o) := Kp.new hp
  have nfp : fa ≠ p := ne_of_none h2 hp
  have q1' : setR ro p (.branch s.fs.length (s.bs.length + 1)) fa = some (.frame s.fs.length) := by rw [setR_ne nfp]; exact q1
  have k2 : ∀ {H1 : Hp} {o : HO}, Kp (fun r => r ≠ .frame s.fs.length) (setR ro p (.branch s.fs.length (s.bs.length + 1))) (setR ro p (.branch s.fs.length (s.bs.length + 1))) Z H1 Z (upd H1 fa o) := Kp.upd q1'
  have kp : Kp (fun r => r ≠ .frame s.fs.length) ro (setR ro p (.branch s.fs.length (s.bs.length + 1))) Z H Z (upd (upd H p (.lst [])) fa (.lst ((wb' ++ [wt]) ++ [.ref p]))) := ⟨Same.refl _, fun b r o h c e => by
    obtain ⟨a1, a2⟩ := k1.k b r o h trivial e
    exact k2.k b r o a1 c a2⟩
  have ow := R.own _ _ q1
  refine ⟨setR ro p (.branch s.fs.length (s.bs.length + 1)), (R.gr.alloc hp).mut (.inl ow.1) ow.2.1 (by rw [upd_ne nfp]; exact h2), own_upd (own_new R.own (R.gr.free hp) zp), (kp.k _ _ _ R.rx (fun z => nomatch z) R.hx).1, (kp.k _ _ _ R.rm (fun z => nomatch z) R.hm).1, (kp.k _ _ _ R.rf (fun z => nomatch z) f1).1, (kp.k _ _ _ R.rr (fun z => nomatch z) h1).1,
    (kp.k _ _ _ R.rx (fun z => nomatch z) R.hx).2, (kp.k _ _ _ R.rm (fun z => nomatch z) R.hm).2, ⟨vf, (kp.k _ _ _ R.rf (fun z => nomatch z) f1).2, f2⟩,
    ⟨vs, .ref fa, (kp.k _ _ _ R.rr (fun z => nomatch z) h1).2, r2, r3.kp kp (fun i r hi hr => ?_), fa, wb' ++ [wt], .ref p, rfl, q1', upd_same, ?_, fun j w b e1 e2 => ?_, p, [], rfl, ?_, ?_, .nil⟩⟩
  · rcases hr with rfl | ⟨j, rfl⟩
    · intro z; injection z with z; omega
    · exact fun z => nomatch z
  · rw [List.length_append, List.length_append, q3]; rfl
  · refine BrAt.kp (?_ : BrAt CP ro Z H s.fs.length j w b) kp (fun z => nomatch z)
    by_cases c : j < wb'.length
    · rw [List.getElem?_append_left c] at e1
      rw [List.getElem?_append_left (by omega)] at e2
      exact q4 j w b e1 e2
    · have hj : j = wb'.length := by
        have := (List.getElem?_eq_some_iff.mp e1).1
        rw [List.length_append] at this
        simp only [List.length_singleton] at this
        omega
      subst hj
      rw [List.getElem?_append_right (Nat.le_refl _), Nat.sub_self] at e1
      rw [List.getElem?_append_right (by omega), q3, Nat.sub_self] at e2
      have e3 : wt = w := by simpa using e1
      have e4 : s.ps = b := by simpa using e2
      rw [q3, ← e3, ← e4]; exact q5
  · rw [setR_same, List.length_append]; rfl
  · rw [upd_ne nfp.symm, upd_same]
/-- a frame more -/
theorem ScR.frame (R : ScR CS CP Z0 H0 x a ro dx am af ar s Z H) {vs : List V} {p q : Addr} (h1 : H ar = some (.lst vs)) (hp : H p = none) (hq : (upd H p (.lst [])) q = none) :
    ∃ ro', ScR CS CP Z0 H0 x a ro' dx am af ar { s with fs := (s.bs, s.ps) :: s.fs, bs := [], ps := [] } Z (upd (upd (upd H p (.lst [])) q (.lst [.ref p])) ar (.lst (vs ++ [.ref q]))) := by
  obtain ⟨vf, f1, f2⟩ := R.hf
  obtain ⟨vs', vt, r1, r2, r3, r4⟩ := R.hr
  rw [h1] at r1
  have e1 : vs = vs' ++ [vt] := by injection r1 with r1; injection r1
  subst e1
  have npq : p ≠ q := ne_of_none upd_same hq
  have hq0 : H q = none := by rw [upd_ne npq.symm] at hq; exact hq
  have k1 : ∀ {o : HO}, Kp (fun _ => True) ro (setR ro p (.branch (s.fs.length + 1) 0)) Z H Z (upd H p o) := Kp.new hp
  have k2 : Kp (fun _ => True) (setR ro p (.branch (s.fs.length + 1) 0)) (setR (setR ro p (.branch (s.fs.length + 1) 0)) q (.frame (s.fs.length + 1))) Z (upd H p (.lst [])) Z (upd (upd H p (.lst [])) q (.lst [.ref p])) := Kp.new hq
  have kp0 : Kp (fun _ => True) ro (setR (setR ro p (.branch (s.fs.length + 1) 0)) q (.frame (s.fs.length + 1))) Z H Z (upd (upd H p (.lst [])) q (.lst [.ref p])) := ⟨Same.refl _, fun b r o h c e => by
    obtain ⟨a1, a2⟩ := k1.k b r o h trivial e
    exact k2.k b r o a1 trivial a2⟩
  obtain ⟨rr', hr'⟩ := kp0.k _ _ _ R.rr trivial h1
  have k3 : ∀ {o : HO}, Kp (fun r => r ≠ .frames) (setR (setR ro p (.branch (s.fs.length + 1) 0)) q (.frame (s.fs.length + 1))) (setR (setR ro p (.branch (s.fs.length + 1) 0)) q (.frame (s.fs.length + 1))) Z (upd (upd H p (.lst [])) q (.lst [.ref p])) Z (upd (upd (upd H p (.lst [])) q (.lst [.ref p])) ar o) := Kp.upd rr'
  have kp : Kp (fun r => r ≠ .frames) ro (setR (setR ro p (.branch (s.fs.length + 1) 0)) q (.frame (s.fs.length + 1))) Z H Z (upd (upd (upd H p (.lst [])) q (.lst [.ref p])) ar (.lst ((vs' ++ [vt]) ++ [.ref q]))) := ⟨Same.refl _, fun b r o h c e => by
    obtain ⟨a1, a2⟩ := kp0.k b r o h trivial e
    exact k3.k b r o a1 c a2⟩
  have ow := R.own _ _ R.rr
  have g1 := R.gr.alloc (o := .lst []) hp
  have g2 := g1.alloc (o := .lst [.ref p]) hq
  have nra : ar ≠ p := ne_of_none h1 hp
  have nrq : ar ≠ q := ne_of_none h1 hq0
  refine ⟨setR (setR ro p (.branch (s.fs.length + 1) 0)) q (.frame (s.fs.length + 1)), g2.mut (.inl ow.1) ow.2.1 hr', own_upd (own_new (own_new R.own (R.gr.free hp) (R.gr.zh.free hp)) (g1.free hq) (g1.zh.free hq)), (kp.k _ _ _ R.rx (fun z => nomatch z) R.hx).1, (kp.k _ _ _ R.rm (fun z => nomatch z) R.hm).1, (kp.k _ _ _ R.rf (fun z => nomatch z) f1).1, rr',
    (kp.k _ _ _ R.rx (fun z => nomatch z) R.hx).2, (kp.k _ _ _ R.rm (fun z => nomatch z) R.hm).2, ⟨vf, (kp.k _ _ _ R.rf (fun z => nomatch z) f1).2, f2⟩,
    ⟨vs' ++ [vt], .ref q, upd_same, by rw [List.length_append, r2]; rfl, ⟨vs', vt, rfl, r4.kp kp (fun r hr => by rcases hr with rfl | ⟨j, rfl⟩ <;> exact fun z => nomatch z), r3.kp kp (fun i r _ hr => by rcases hr with rfl | ⟨j, rfl⟩ <;> exact fun z => nomatch z)⟩, q, [], .ref p, rfl, setR_same, ?_, rfl, fun j w b e1 e2 => by simp at e1, p, [], rfl, ?_, ?_, .nil⟩⟩
  · rw [upd_ne nrq.symm]; exact upd_same
  · rw [setR_ne npq]; exact setR_same
  · rw [upd_ne nra.symm, upd_ne npq]; exact upd_same
/-- the top frame frozen -/
theorem ScR.frz (R : ScR CS CP Z0 H0 x a ro dx am af ar s Z H) : ∃ vs vt, H ar = some (.lst (vs ++ [vt])) ∧ vs.length = s.fs.length ∧ Stk CP ro Z H vs s.fs ∧ Gr Z0 H0 (frzZ s.fs.length ro Z H) H ∧ Same Z (frzZ s.fs.length ro Z H) ∧ isL (isL (isPart CP)) (frzZ s.fs.length ro Z H) vt s.top ∧ FolAt CS (frzZ s.fs.length ro Z H) H x af s.follow := by
  obtain ⟨vf, f1, f2⟩ := R.hf
  obtain ⟨vs, vt, r1, r2, r3, fa, wb, wt, rfl, q1, q2, q3, q4, q5⟩ := R.hr
  have yes : ∀ {b : Addr} {r : Role}, ro b = some r → OfF s.fs.length r → frzZ s.fs.length ro Z H b = H b := fun h o => by
    unfold frzZ
    rw [h, if_pos (ofB_iff.mpr o)]
  have own' : ∀ {b : Addr}, ofB s.fs.length (ro b) = true → H0 b = none ∧ Z b = none := fun {b} h => by
    cases e : ro b with
    | none => rw [e] at h; cases h
    | some r => exact ⟨(R.own b r e).1, (R.own b r e).2.1⟩
  have sz : Same Z (frzZ s.fs.length ro Z H) := fun b o e => by
    unfold frzZ
    by_cases c : ofB s.fs.length (ro b) = true
    · rw [(own' c).2] at e; cases e
    · rw [if_neg c]; exact e
  have szh : Same (frzZ s.fs.length ro Z H) H := fun b o e => by
    unfold frzZ at e
    by_cases c : ofB s.fs.length (ro b) = true
    · rw [if_pos c] at e; exact e
    · rw [if_neg c] at e; exact R.gr.zh b o e
  have no : ∀ {b : Addr} {r : Role}, ro b = some r → ¬ OfF s.fs.length r → frzZ s.fs.length ro Z H b = Z b := fun h o => by
    unfold frzZ
    rw [h, if_neg fun z => o (ofB_iff.mp z)]
  refine ⟨vs, .ref fa, r1, r2, r3, ⟨R.gr.z.trans sz, R.gr.h, R.gr.dom, szh, fun b o e => ?_⟩, sz, ⟨fa, wb ++ [wt], rfl, by rw [yes q1 (.inl rfl)]; exact q2, ?_⟩, ⟨dx, _, _, _, _, _, vf, R.hx, by rw [no R.rf (fun z => by rcases z with z | ⟨j, z⟩ <;> cases z)]; exact (R.own _ _ R.rf).2.1, f1, Paired.mapP f2 fun _ _ q => Mono.mono sz q⟩⟩
  · unfold frzZ at e
    by_cases c : ofB s.fs.length (ro b) = true
    · exact .inr (own' c).1
    · rw [if_neg c] at e; exact R.gr.new b o e
  · have br : ∀ {j : Nat} {w : V} {b : List Pt}, BrAt CP ro Z H s.fs.length j w b → isL (isPart CP) (frzZ s.fs.length ro Z H) w b := fun {j w b} ⟨ba, ws, e, h1, h2, h3⟩ =>
      ⟨ba, ws, e, by rw [yes h1 (.inr ⟨_, rfl⟩)]; exact h2, Paired.mapP h3 fun _ _ q => Mono.mono sz q⟩
    exact Paired.snoc (paired_at q3 fun j w b e1 e2 => br (q4 j w b e1 e2)) (br q5)
/-- the top frame popped -/
theorem ScR.pop (R : ScR CS CP Z0 H0 x a ro dx am af ar s Z H) {f : List (List Pt) × List Pt} {r : List (List (List Pt) × List Pt)} (hf : s.fs = f :: r) :
    ∃ vs vt, H ar = some (.lst (vs ++ [vt])) ∧ Same Z (frzZ s.fs.length ro Z H) ∧ isL (isL (isPart CP)) (frzZ s.fs.length ro Z H) vt s.top ∧
      ScR CS CP Z0 H0 x a (frzR s.fs.length ro) dx am af ar { s with fs := r, bs := f.1, ps := f.2 } (frzZ s.fs.length ro Z H) (upd H ar (.lst vs)) := by
  obtain ⟨vf, f1, f2⟩ := R.hf
  obtain ⟨vs, vt, r1, r2, r3, g, sz, hfr, F⟩ := R.frz
  refine ⟨vs, vt, r1, sz, hfr, ?_⟩
  have ow := R.own _ _ R.rr
  have kr : ∀ {b : Addr} {q : Role}, ro b = some q → ¬ OfF s.fs.length q → frzR s.fs.length ro b = some q ∧ frzZ s.fs.length ro Z H b = Z b := fun h o => by
    unfold frzR frzZ
    rw [h, if_neg fun z => o (ofB_iff.mp z), if_neg fun z => o (ofB_iff.mp z)]
    exact ⟨rfl, rfl⟩
  have kp : ∀ {o : HO}, Kp (fun q => q ≠ .frames ∧ ¬ OfF s.fs.length q) ro (frzR s.fs.length ro) Z H (frzZ s.fs.length ro Z H) (upd H ar o) := ⟨sz, fun b q u h c e => ⟨(kr h c.2).1, by rw [upd_ne (ro_ne h R.rr c.1)]; exact e⟩⟩
  have nO : ∀ {q : Role}, (∀ i, q ≠ .frame i) → (∀ i j, q ≠ .branch i j) → ¬ OfF s.fs.length q := fun h1 h2 z => by
    rcases z with z | ⟨j, z⟩
    · exact h1 _ z
    · exact h2 _ _ z
  have cx : Role.self ≠ .frames ∧ ¬ OfF s.fs.length .self := ⟨by decide, nO (fun _ z => nomatch z) fun _ _ z => nomatch z⟩
  have cm : Role.marks ≠ .frames ∧ ¬ OfF s.fs.length .marks := ⟨by decide, nO (fun _ z => nomatch z) fun _ _ z => nomatch z⟩
  have cf : Role.follow ≠ .frames ∧ ¬ OfF s.fs.length .follow := ⟨by decide, nO (fun _ z => nomatch z) fun _ _ z => nomatch z⟩
  rw [hf] at r3 r2
  obtain ⟨vs', v, e, q1, q2⟩ := r3
  have lower : ∀ i q, i < s.fs.length → OfF i q → q ≠ .frames ∧ ¬ OfF s.fs.length q := fun i q hi hq => by
    rcases hq with rfl | ⟨j, rfl⟩
    · exact ⟨(fun z => nomatch z), fun z => by
        rcases z with z | ⟨j, z⟩
        · injection z with z; omega
        · cases z⟩
    · exact ⟨(fun z => nomatch z), fun z => by
        rcases z with z | ⟨k, z⟩
        · cases z
        · injection z with z _; omega⟩
  have hl : s.fs.length = r.length + 1 := by rw [hf]; rfl
  refine ⟨g.mut (.inl ow.1) (by rw [(kr R.rr (nO (fun _ z => nomatch z) fun _ _ z => nomatch z)).2]; exact ow.2.1) r1, own_upd fun b q h => ?_, (kr R.rx cx.2).1, (kr R.rm cm.2).1, (kr R.rf cf.2).1, (kr R.rr (nO (fun _ z => nomatch z) fun _ _ z => nomatch z)).1,
    (kp.k _ _ _ R.rx cx R.hx).2, (kp.k _ _ _ R.rm cm R.hm).2, ⟨vf, (kp.k _ _ _ R.rf cf f1).2, Paired.mapP f2 fun _ _ q => Mono.mono sz q⟩,
    ⟨vs', v, by rw [e]; exact upd_same, ?_, q2.kp kp (fun i q hi hq => lower i q (by omega) hq), q1.kp kp (fun q hq => lower _ q (by omega) hq)⟩⟩
  · unfold frzR at h
    by_cases c : ofB s.fs.length (ro b) = true
    · rw [if_pos c] at h; cases h
    · rw [if_neg c] at h
      obtain ⟨h1, h2, h3⟩ := R.own b q h
      exact ⟨h1, by unfold frzZ; rw [if_neg c]; exact h2, h3⟩
  · have := congrArg List.length e
    rw [List.length_append, r2] at this
    simp only [List.length_cons, List.length_nil] at this
    show vs'.length = r.length
    omega
end
end K87

set_option autoImplicit true
set_option Elab.async false
set_option linter.all false
set_option maxRecDepth 100000
set_option maxHeartbeats 4000000
set_option pp.deepTerms.threshold 6
/-! K87D20: Scanner.__init__, is_closed, _add, _add_place. -/
namespace K87
open PySem L2 PySem.Spec PyProof.Rows
section
local macro_rules | `(tactic| walk_at "nf") => `(tactic| try dsimp only [tSeq, tAsg, gName, tRet, tRetN, tDrop, tNext, tIfS, tTest, tB, tOp, tUn, tNil, tCons, tCB, tC, tAnd, tOr, tNot, tAndV, tOrV, tNotV, sDPut, sFld, sFldAug, tM0, tM1, tBM, tBM0, tMeth, tCall, sGPut, tGGet, tGNin, tDGet, tDNotIn, tDIn, tFld, tChain])
local macro_rules | `(tactic| walk_at "st") => `(tactic| try dsimp only [wipe, List.set_cons_zero, List.set_cons_succ])
variable {P : Program} {w : World} {K : PySem.W.Frag} {mg : Str → Option Value} {base : Heap}
theorem own_cons {P : Addr → Prop} {ro : Ro} {p : Addr} {r0 : Role} (h : ∀ b r, ro b = some r → P b) (hp : P p) : ∀ b r, setR ro p r0 b = some r → P b := fun b r e => by
  by_cases c : b = p
  · subst c; exact hp
  · rw [setR_ne c] at e; exact h b r e
def spScan (CS CP : Addr) : Sp := fun vs H Q _ => ∃ (Z H0 : Hp) (x dx : Addr) (a : Str), vs = [.ref x, .str a] ∧ H = upd (upd H0 dx (.own x)) x (.ins CS dx []) ∧ Same Z H0 ∧ H0 x = none ∧ H0 dx = none ∧ dx ≠ x ∧
  ∀ Z' H', ScAt CS CP Z H0 x a Sc.start Z' H' → Q .non H'
abbrev N_Scanner___init__ : List Str := ["self", "alphabet"]
theorem sc_Scanner___init__ : FnScope N_Scanner___init__ ["self", "alphabet"] (defScope (inClass (top 26) 0)) := ⟨rfl, rfl, rfl, by decide +kernel, rfl, by decide +kernel, by decide +kernel⟩
theorem ok_Scanner___init__ (T : Txt K mg) : FnOk P w K mg base CX0 1 T.c_Scanner.init.f T.c_Scanner.init.fd ["self", "alphabet"] (spScan T.c_Scanner.C T.c_Part.C) := by
  refine T.c_Scanner.init.fn.ok sc_Scanner___init__ (fun vs H Q E h => ?_) (fun cdv A outer s H vs Q E hr h => ?_)
  · obtain ⟨Z, H0, x, dx, a, rfl, _⟩ := h
    rfl
  · obtain ⟨Z, H0, x, dx, a, rfl, rfl, sub, hx0, hdx, ne, kk⟩ := h
    refine ⟨_, pss_cons (ps_fld (pv 0) (pv 1) rfl)
  (pss_cons (ps_fld (pv 0) (pe_lst (pa_cons (pe_non) pa_nil)) rfl)
  (pss_cons (ps_fld (pv 0) (pe_lst (pa_cons (pe_lst pa_nil) pa_nil)) rfl)
  (pss_cons (ps_fld (pv 0) (pe_lst (pa_cons (pe_lst (pa_cons (pe_lst pa_nil) pa_nil)) pa_nil)) rfl)
  (pss_cons (ps_fld (pv 0) (pe_int) rfl)
  (pss_one (ps_fld (pv 0) (pe_bl) rfl)))))), ?_⟩
    have hx' : (upd H0 dx (.own x)) x = none := by rw [upd_ne ne.symm]; exact hx0
    have zx : Z x = none := sub.free hx0
    have g0 : Gr Z H0 Z (upd (upd H0 dx (.own x)) x (.ins T.c_Scanner.C dx [])) := ((Grow.refl sub).alloc hdx).alloc hx'
    walk_at "nf"
    -- self.alphabet
    refine ⟨_, rfl, _, rfl, x, _, dx, [], rfl, upd_same, T.c_Scanner.cl, T.n_Scanner_alphabet, (by show 0 < 1000; decide), ?_⟩
    have g1 := g0.mut (o := .ins T.c_Scanner.C dx [("alphabet", .str a)]) (.inl hx0) zx upd_same
    rw [upd_upd] at g1 ⊢
    -- self.marks = [None]
    refine a_lst1 (t_C (x_lstN (by show 1 ≤ 1000; decide) fun am ham => ?_))
    have n1 : x ≠ am := ne_of_none upd_same ham
    have ham0 := g1.free ham
    have g2 := g1.alloc (o := .lst [.non]) ham
    refine ⟨_, rfl, x, _, dx, _, rfl, by rw [upd_ne n1]; exact upd_same, T.c_Scanner.cl, T.n_Scanner_marks, (by show 1 < 1000; decide), ?_⟩
    have g3 := g2.mut (o := .ins T.c_Scanner.C dx [("alphabet", .str a), ("marks", .ref am)]) (.inl hx0) zx (by rw [upd_ne n1]; exact upd_same)
    have m3 : (upd (upd (upd (upd H0 dx (.own x)) x (.ins T.c_Scanner.C dx [("alphabet", .str a)])) am (.lst [.non])) x (.ins T.c_Scanner.C dx [("alphabet", .str a), ("marks", .ref am)])) am = some (.lst [.non]) := by rw [upd_ne n1.symm]; exact upd_same
    have x3 : (upd (upd (upd (upd H0 dx (.own x)) x (.ins T.c_Scanner.C dx [("alphabet", .str a)])) am (.lst [.non])) x (.ins T.c_Scanner.C dx [("alphabet", .str a), ("marks", .ref am)])) x = some (.ins T.c_Scanner.C dx [("alphabet", .str a), ("marks", .ref am)]) := upd_same
    show tLst _ _ (upd (upd (upd (upd H0 dx (.own x)) x (.ins T.c_Scanner.C dx [("alphabet", .str a)])) am (.lst [.non])) x (.ins T.c_Scanner.C dx [("alphabet", .str a), ("marks", .ref am)])) _
    generalize upd (upd (upd (upd H0 dx (.own x)) x (.ins T.c_Scanner.C dx [("alphabet", .str a)])) am (.lst [.non])) x (.ins T.c_Scanner.C dx [("alphabet", .str a), ("marks", .ref am)]) = H3 at g3 m3 x3 ⊢
    -- self.follow = [[]]
    refine a_lst1 (a_lst0 (x_lstZ g3.zh (by decide) fun p Z4 H4 g4 hp => x_lstN (by show 1 ≤ 1000; decide) fun af haf => ?_))
    have g4' := g3.trans g4
    have m4 := g4.keepH m3
    have x4 := g4.keepH x3
    have zx4 : Z4 x = none := g4.keepZ zx x3
    have zm4 : Z4 am = none := g4.keepZ (sub.free ham0) m3
    have n2 : x ≠ af := ne_of_none x4 haf
    have n3 : am ≠ af := ne_of_none m4 haf
    have haf0 := g4'.free haf
    have g5 := g4'.alloc (o := .lst [.ref p]) haf
    refine ⟨_, rfl, x, _, dx, _, rfl, by rw [upd_ne n2]; exact x4, T.c_Scanner.cl, T.n_Scanner_follow, (by show 2 < 1000; decide), ?_⟩
    have g6 := g5.mut (o := .ins T.c_Scanner.C dx [("alphabet", .str a), ("marks", .ref am), ("follow", .ref af)]) (.inl hx0) zx4 (by rw [upd_ne n2]; exact x4)
    have f6 : (upd (upd H4 af (.lst [.ref p])) x (.ins T.c_Scanner.C dx [("alphabet", .str a), ("marks", .ref am), ("follow", .ref af)])) af = some (.lst [.ref p]) := by rw [upd_ne n2.symm]; exact upd_same
    have m6 : (upd (upd H4 af (.lst [.ref p])) x (.ins T.c_Scanner.C dx [("alphabet", .str a), ("marks", .ref am), ("follow", .ref af)])) am = some (.lst [.non]) := by rw [upd_ne n1.symm, upd_ne n3]; exact m4
    have x6 : (upd (upd H4 af (.lst [.ref p])) x (.ins T.c_Scanner.C dx [("alphabet", .str a), ("marks", .ref am), ("follow", .ref af)])) x = some (.ins T.c_Scanner.C dx [("alphabet", .str a), ("marks", .ref am), ("follow", .ref af)]) := upd_same
    show tLst _ _ (upd (upd H4 af (.lst [.ref p])) x (.ins T.c_Scanner.C dx [("alphabet", .str a), ("marks", .ref am), ("follow", .ref af)])) _
    generalize upd (upd H4 af (.lst [.ref p])) x (.ins T.c_Scanner.C dx [("alphabet", .str a), ("marks", .ref am), ("follow", .ref af)]) = H6 at g6 f6 m6 x6 ⊢
    -- self.frames = [[[]]]
    refine a_lst1 (a_lst1 (a_lst0 (x_lstN (by show 0 ≤ 1000; decide) fun p1 hp1 => x_lstN (by show 1 ≤ 1000; decide) fun p2 hp2 => x_lstN (by show 1 ≤ 1000; decide) fun ar har => ?_)))
    have g7 := g6.alloc (o := .lst []) hp1
    have g8 := g7.alloc (o := .lst [.ref p1]) hp2
    have g9 := g8.alloc (o := .lst [.ref p2]) har
    have k1 : ∀ {b : Addr} {o : HO}, H6 b = some o → b ≠ p1 ∧ b ≠ p2 ∧ b ≠ ar := fun {b o} e => by
      have a1 := ne_of_none e hp1
      have e2 : (upd H6 p1 (.lst [])) b = some o := by rw [upd_ne a1]; exact e
      have a2 := ne_of_none e2 hp2
      exact ⟨a1, a2, ne_of_none (by rw [upd_ne a2]; exact e2) har⟩
    have n12 : p1 ≠ p2 := ne_of_none upd_same hp2
    have n1r : p1 ≠ ar := ne_of_none (by rw [upd_ne n12]; exact upd_same) har
    have n2r : p2 ≠ ar := ne_of_none upd_same har
    obtain ⟨x1, x2, xr⟩ := k1 x6
    obtain ⟨m1, m2, mr⟩ := k1 m6
    obtain ⟨ff1, ff2, ffr⟩ := k1 f6
    have x9 : (upd (upd (upd H6 p1 (.lst [])) p2 (.lst [.ref p1])) ar (.lst [.ref p2])) x = some (.ins T.c_Scanner.C dx [("alphabet", .str a), ("marks", .ref am), ("follow", .ref af)]) := by rw [upd_ne xr, upd_ne x2, upd_ne x1]; exact x6
    have m9 : (upd (upd (upd H6 p1 (.lst [])) p2 (.lst [.ref p1])) ar (.lst [.ref p2])) am = some (.lst [.non]) := by rw [upd_ne mr, upd_ne m2, upd_ne m1]; exact m6
    have f9 : (upd (upd (upd H6 p1 (.lst [])) p2 (.lst [.ref p1])) ar (.lst [.ref p2])) af = some (.lst [.ref p]) := by rw [upd_ne ffr, upd_ne ff2, upd_ne ff1]; exact f6
    have a9 : (upd (upd (upd H6 p1 (.lst [])) p2 (.lst [.ref p1])) ar (.lst [.ref p2])) ar = some (.lst [.ref p2]) := upd_same
    have q9 : (upd (upd (upd H6 p1 (.lst [])) p2 (.lst [.ref p1])) ar (.lst [.ref p2])) p2 = some (.lst [.ref p1]) := by rw [upd_ne n2r]; exact upd_same
    have b9 : (upd (upd (upd H6 p1 (.lst [])) p2 (.lst [.ref p1])) ar (.lst [.ref p2])) p1 = some (.lst []) := by rw [upd_ne n1r, upd_ne n12]; exact upd_same
    have o1 := g6.free hp1
    have o2 := g7.free hp2
    have or' := g8.free har
    have z1 := g6.zh.free hp1
    have z2 := g7.zh.free hp2
    have zr := g8.zh.free har
    have zf : Z4 af = none := g4'.zh.free haf
    generalize upd (upd (upd H6 p1 (.lst [])) p2 (.lst [.ref p1])) ar (.lst [.ref p2]) = H9 at g9 x9 m9 f9 a9 q9 b9 ⊢
    refine ⟨_, rfl, x, _, dx, _, rfl, x9, T.c_Scanner.cl, T.n_Scanner_frames, (by show 3 < 1000; decide), ?_⟩
    refine ⟨_, rfl, x, _, dx, _, rfl, upd_same, T.c_Scanner.cl, T.n_Scanner_signs, (by show 4 < 1000; decide), ?_⟩
    refine ⟨_, rfl, x, _, dx, _, rfl, upd_same, T.c_Scanner.cl, T.n_Scanner_starred, (by show 5 < 1000; decide), ?_⟩
    rw [upd_upd, upd_upd]
    have g10 := g9.mut (o := .ins T.c_Scanner.C dx [("alphabet", .str a), ("marks", .ref am), ("follow", .ref af), ("frames", .ref ar), ("signs", .int 0), ("starred", .bl false)]) (.inl hx0) zx4 x9
    have nma : am ≠ ar := mr
    have nfa : af ≠ ar := ffr
    refine kk Z4 _ ⟨setR (setR (setR (setR (setR (setR (fun _ => none) p1 (.branch 0 0)) p2 (.frame 0)) ar .frames) af .follow) am .marks) x .self, dx, am, af, ar, g10, ?_, setR_same, ?_, ?_, ?_, upd_same, by rw [upd_ne n1.symm]; exact m9, ⟨[.ref p], by rw [upd_ne n2.symm]; exact f9, .cons (isL_vN (xs := []) hp) .nil⟩,
      ⟨[], .ref p2, by rw [upd_ne xr.symm]; exact a9, rfl, rfl, p2, [], .ref p1, rfl, ?_, by rw [upd_ne x2.symm]; exact q9, rfl, fun j w b e => by simp at e, p1, [], rfl, ?_, by rw [upd_ne x1.symm]; exact b9, .nil⟩⟩
    · refine own_cons (own_cons (own_cons (own_cons (own_cons (own_cons (fun b r e => by cases e) ?_) ?_) ?_) ?_) ?_) ?_
      · exact ⟨o1, z1, _, by rw [upd_ne x1.symm]; exact b9⟩
      · exact ⟨o2, z2, _, by rw [upd_ne x2.symm]; exact q9⟩
      · exact ⟨or', zr, _, by rw [upd_ne xr.symm]; exact a9⟩
      · exact ⟨haf0, zf, _, by rw [upd_ne n2.symm]; exact f9⟩
      · exact ⟨ham0, zm4, _, by rw [upd_ne n1.symm]; exact m9⟩
      · exact ⟨hx0, zx4, _, upd_same⟩
    · rw [setR_ne n1.symm]; exact setR_same
    · rw [setR_ne n2.symm, setR_ne n3.symm]; exact setR_same
    · rw [setR_ne xr.symm, setR_ne nma.symm, setR_ne nfa.symm]; exact setR_same
    · rw [setR_ne x2.symm, setR_ne m2.symm, setR_ne ff2.symm, setR_ne n2r]; exact setR_same
    · rw [setR_ne x1.symm, setR_ne m1.symm, setR_ne ff1.symm, setR_ne n1r, setR_ne n12]; exact setR_same
def spClosed (CS CP : Addr) : Sp := fun vs H Q _ => ∃ (Z0 H0 Z : Hp) (x : Addr) (a : Str) (s : Sc), vs = [.ref x] ∧ ScAt CS CP Z0 H0 x a s Z H ∧ Q (.bl s.fs.isEmpty) H
abbrev N_Scanner_is_closed : List Str := ["self"]
theorem sc_Scanner_is_closed : FnScope N_Scanner_is_closed ["self"] (defScope (inClass (top 26) 1)) := ⟨rfl, rfl, rfl, by decide +kernel, rfl, by decide +kernel, by decide +kernel⟩
theorem ok_Scanner_is_closed (T : Txt K mg) : FnOk P w K mg base CX0 1 T.m_Scanner_is_closed.f T.m_Scanner_is_closed.fd ["self"] (spClosed T.c_Scanner.C T.c_Part.C) := by
  refine T.m_Scanner_is_closed.fn.ok sc_Scanner_is_closed (fun vs H Q E h => ?_) (fun cdv A outer s H vs Q E hr h => ?_)
  · obtain ⟨Z0, H0, Z, x, a, s, rfl, _⟩ := h
    rfl
  · obtain ⟨Z0, H0, Z, x, a, st, rfl, ⟨ro, dx, am, af, ar, R⟩, kk⟩ := h
    refine ⟨_, pss_one (ps_ret (pe_cmpR op_eq (pe_callB (call_len_seqK K rfl) (by rfl) T.b_len (by decide +kernel) (pa_cons (pe_fldK K rfl (pv 0) rfl) pa_nil)) (pe_int) (nomark _))), ?_⟩
    obtain ⟨vs, vt, r1, r2, r3, r4⟩ := R.hr
    walk_at "nf"
    refine ⟨_, rfl, x, _, dx, _, _, rfl, R.hx, T.c_Scanner.cl, T.n_Scanner_frames, rfl, x_lenm (n := st.fs.length + 1) r1 (by rw [List.length_append, r2]; rfl) ⟨rfl, ?_⟩⟩
    have e : decide (V.int ((st.fs.length + 1 : Nat) : Int) = V.int 1) = st.fs.isEmpty := by
      cases st.fs with
      | nil => rfl
      | cons f r => exact decide_eq_false fun e => by injection e with e; simp only [List.length_cons] at e; omega
    rw [e]
    exact kk
def spAdd (CS CP : Addr) : Sp := fun vs H Q _ => ∃ (Z0 H0 Z : Hp) (x : Addr) (a : Str) (s : Sc) (vp : V) (p : Pt), vs = [.ref x, vp] ∧ ScAt CS CP Z0 H0 x a s Z H ∧ isPart CP Z vp p ∧ s.ps.length ≤ 1000 ∧
  ∀ H', ScAt CS CP Z0 H0 x a (s.add p) Z H' → Q .non H'
abbrev N_Scanner__add : List Str := ["self", "part"]
theorem sc_Scanner__add : FnScope N_Scanner__add ["self", "part"] (defScope (inClass (top 26) 3)) := ⟨rfl, rfl, rfl, by decide +kernel, rfl, by decide +kernel, by decide +kernel⟩
theorem ok_Scanner__add (T : Txt K mg) : FnOk P w K mg base CX0 1 T.m_Scanner__add.f T.m_Scanner__add.fd ["self", "part"] (spAdd T.c_Scanner.C T.c_Part.C) := by
  refine T.m_Scanner__add.fn.ok sc_Scanner__add (fun vs H Q E h => ?_) (fun cdv A outer s H vs Q E hr h => ?_)
  · obtain ⟨Z0, H0, Z, x, a, s, vp, p, rfl, _⟩ := h
    rfl
  · obtain ⟨Z0, H0, Z, x, a, st, vp, p, rfl, ⟨ro, dx, am, af, ar, R⟩, hp, hl, kk⟩ := h
    refine ⟨_, pss_cons (ps_expr (pe_bmK K rfl PySem.F.plainAttrs_list PySem.F.slot_list_append PySem.F.type_list_append mt_append (pe_ix (ix_listK K rfl) (pe_ix (ix_listK K rfl) (pe_fldK K rfl (pv 0) rfl) (pe_un un_neg (pe_int)) (fun _ _ => rfl)) (pe_un un_neg (pe_int)) (fun _ _ => rfl)) (pa_cons (pv 1) pa_nil)))
  (pss_one (ps_fld (pv 0) (pe_bl) rfl)), ?_⟩
    obtain ⟨vs, fa, wb, ba, ws, h1, h2, h3, h4, h5, h6, put⟩ := R.topB
    walk_at "nf"
    refine ⟨_, rfl, x, _, dx, _, _, rfl, R.hx, T.c_Scanner.cl, T.n_Scanner_frames, rfl, _, rfl, ar, _, _, _, rfl, rfl, SqL.of h1, atI_last _ _, _, rfl, fa, _, _, _, rfl, rfl, SqL.of h3, atI_last _ _, ?_⟩
    refine ⟨.inl ⟨rfl, _, SqL.of h5⟩, _, rfl, ba, _, _, rfl, rfl, h5, sz6' (by rw [Paired.length h6]; omega), ?_⟩
    have R2 := put (ws ++ [vp]) (st.ps ++ [p]) (Paired.snoc h6 hp)
    refine ⟨_, rfl, x, _, dx, _, rfl, R2.hx, T.c_Scanner.cl, T.n_Scanner_starred, (by show 6 < 1000; decide), ?_⟩
    exact kk _ ⟨ro, dx, am, af, ar, R2.self st.signs true⟩
def spPlace (CS CP : Addr) : Sp := fun vs H Q _ => ∃ (Z0 H0 Z : Hp) (x : Addr) (a : Str) (s : Sc) (m : Option Nat), vs = [.ref x, vM m] ∧ ScAt CS CP Z0 H0 x a s Z H ∧ s.ps.length ≤ 1000 ∧ s.marks.length ≤ 1000 ∧ s.follow.length ≤ 1000 ∧
  ∀ Z' H', ScAt CS CP Z0 H0 x a (s.place m) Z' H' → Same Z Z' → Q .non H'
abbrev N_Scanner__add_place : List Str := ["self", "mark", "place"]
theorem sc_Scanner__add_place : FnScope N_Scanner__add_place ["self", "mark"] (defScope (inClass (top 26) 4)) := ⟨rfl, rfl, rfl, by decide +kernel, rfl, by decide +kernel, by decide +kernel⟩
theorem ok_Scanner__add_place (T : Txt K mg) : FnOk P w K mg base CX0 3 T.m_Scanner__add_place.f T.m_Scanner__add_place.fd ["self", "mark"] (spPlace T.c_Scanner.C T.c_Part.C) := by
  refine T.m_Scanner__add_place.fn.ok sc_Scanner__add_place (fun vs H Q E h => ?_) (fun cdv A outer s H vs Q E hr h => ?_)
  · obtain ⟨Z0, H0, Z, x, a, s, m, rfl, _⟩ := h
    rfl
  · obtain ⟨Z0, H0, Z, x, a, st, m, rfl, ⟨ro, dx, am, af, ar, R⟩, hl1, hl2, hl3, kk⟩ := h
    refine ⟨_, pss_cons (ps_expr (pe_bmK K rfl PySem.F.plainAttrs_list PySem.F.slot_list_append PySem.F.type_list_append mt_append (pe_fldK K rfl (pv 0) rfl) (pa_cons (pv 1) pa_nil)))
  (pss_cons (ps_expr (pe_bmK K rfl PySem.F.plainAttrs_list PySem.F.slot_list_append PySem.F.type_list_append mt_append (pe_fldK K rfl (pv 0) rfl) (pa_cons (pe_lst pa_nil) pa_nil)))
  (pss_cons (ps_set (i := 2) sc_Scanner__add_place.nd rfl (.inl rfl) (pe_lst (pa_cons (pe_op op_sub (pe_callB (call_len_seqK K rfl) (by rfl) T.b_len (by decide +kernel) (pa_cons (pe_fldK K rfl (pv 0) rfl) pa_nil)) (pe_int)) pa_nil)))
  (pss_one (ps_expr (pe_meth (pv 0) T.c_Scanner.cl T.m_Scanner__add.me (ok_Scanner__add T) (hr.mono (by decide)) T.m_Scanner__add.b .nil pass0 (pa_cons (pe_make T.c_Part.mkc (ok_Part___init__ T) (hr.mono (by decide)) (by rfl) T.c_Part.mg T.c_Part.init.b .nil pass0 (pa_cons (pe_bl) (pa_cons (pv 2) (pa_cons (pv 2) pa_nil)))) pa_nil)))))), ?_⟩
    walk_at "nf"
    -- self.marks.append(mark)
    refine ⟨_, rfl, x, _, dx, _, _, rfl, R.hx, T.c_Scanner.cl, T.n_Scanner_marks, rfl, .inl ⟨rfl, _, SqL.of R.hm⟩, _, rfl, am, _, _, rfl, rfl, R.hm, sz6' (by rw [List.length_map]; omega), ?_⟩
    have R1 := R.mark m
    -- self.follow.append([])
    refine ⟨_, rfl, x, _, dx, _, _, rfl, R1.hx, T.c_Scanner.cl, T.n_Scanner_follow, rfl, ?_⟩
    obtain ⟨vf1, f11, f12⟩ := R1.hf
    refine ⟨.inl ⟨rfl, _, SqL.of f11⟩, a_lst0 (x_lstZ R1.gr.zh (by decide) fun p Z2 H2 g2 hp => ?_)⟩
    have R2 := R1.grow g2
    have f21 := g2.keepH f11
    have f22 : Paired (isL isN Z2) vf1 st.follow := Paired.mapP f12 fun _ _ q => Mono.mono g2.z q
    refine ⟨af, vf1, _, rfl, rfl, f21, sz6' (by rw [Paired.length f12]; show st.follow.length ≤ 1000000; omega), ?_⟩
    have R3 := R2.folAdd hp f21 f22
    -- place = [len(self.marks) - 1]
    refine a_lst1 ?_
    walk_at "nf"
    refine ⟨_, rfl, x, _, dx, _, _, rfl, R3.hx, T.c_Scanner.cl, T.n_Scanner_marks, rfl, x_lenm R3.hm (n := st.marks.length + 1) (by rw [List.length_map, List.length_append]; rfl) ⟨_, _, rfl, rfl, ?_⟩⟩
    have e1 : ((st.marks.length + 1 : Nat) : Int) - 1 = (st.marks.length : Int) := by omega
    dsimp only
    rw [e1]
    refine x_lstZ R3.gr.zh (by show 1 ≤ 1000; decide) fun t Z4 H4 g4 ht => ?_
    have R4 := R3.grow g4
    have hplace : isL isN Z4 (.ref t) [st.marks.length] := isL_vN ht
    -- self._add(Part(False, place, place))
    refine ⟨_, rfl, x, dx, _, rfl, R4.hx, rfl, a_new3 (t_C ⟨_, rfl, _, rfl, x_new3 R4.gr.zh fun xp dxp Z5 H5 g5 hxp => ?_⟩)⟩
    have R5 := R4.grow g5
    refine ⟨Z0, H0, Z5, x, a, _, .ref xp, ⟨false, [st.marks.length], [st.marks.length]⟩, rfl, ⟨ro, dx, am, af, ar, R5⟩, ⟨xp, dxp, _, _, rfl, hxp, Mono.mono g5.z hplace, Mono.mono g5.z hplace⟩, hl1, fun H6 S6 => ?_⟩
    exact kk Z5 H6 S6 ((g2.z.trans g4.z).trans g5.z)
end
end K87

set_option autoImplicit true
set_option Elab.async false
set_option linter.all false
set_option maxRecDepth 100000
set_option maxHeartbeats 4000000
set_option pp.deepTerms.threshold 6
/-! K87D21: Scanner._take_star, _close. -/
namespace K87
open PySem L2 PySem.Spec PyProof.Rows
theorem k_ifS {tt : TT} {A B : TS} {D : Ends} {σ : L2.St} {H : Hp} (b : Bool) (Pp : Hp → Prop) (hc : ∀ R : Bool → Hp → Prop, R b H → tt σ H R) (hA : b = true → ∀ D' : Ends, (∀ H2, Pp H2 → D'.nx σ H2) → A D' σ H) (hB : b = false → ∀ D' : Ends, (∀ H2, Pp H2 → D'.nx σ H2) → B D' σ H)
    (k : ∀ H2, Pp H2 → D.nx σ H2) : tIfS tt A B D σ H := by
  refine hc _ ?_
  cases b with
  | true => exact ifY rfl (hA rfl D k)
  | false => exact ifN rfl (hB rfl D k)
theorem k_ifN {tt : TT} {A B : TS} {D : Ends} {σ : L2.St} {H : Hp} (hc : ∀ R : Bool → Hp → Prop, R false H → tt σ H R) (h : B D σ H) : tIfS tt A B D σ H := hc _ (ifN rfl h)
theorem pr_snoc_inv {α β : Type} {F : α → β → Prop} : ∀ {xs : List β} {vs : List α} {x : β}, Paired F vs (xs ++ [x]) → ∃ vs' v, vs = vs' ++ [v] ∧ Paired F vs' xs ∧ F v x
  | [], _, _, .cons r .nil => ⟨[], _, rfl, .nil, r⟩
  | y :: xs, _, x, .cons r t => by
    obtain ⟨vs', v, e, h1, h2⟩ := pr_snoc_inv (xs := xs) t
    exact ⟨_ :: vs', v, by rw [e]; rfl, .cons r h1, h2⟩
theorem ixN_last {n : Nat} (h : 0 < n) : ixN n (-1) = some (n - 1) := by
  unfold ixN
  rw [if_neg (by omega), if_pos (by omega)]
  congr 1
  omega
theorem set_last {α : Type} (xs : List α) (x y : α) : (xs ++ [x]).set xs.length y = xs ++ [y] := by
  induction xs with
  | nil => rfl
  | cons a l ih => show a :: (l ++ [x]).set l.length y = _; rw [ih]; rfl
theorem sgn {c k : Nat} {z : Str} (hz : z = ⟨#[k]⟩) : decide (V.str ⟨#[c]⟩ = V.str z) = decide (c = k) := by
  subst hz
  rw [decide_eq_decide]
  exact ⟨fun e => by injection e with e; injection e with e; simpa using e, fun e => by rw [e]⟩
section
local macro_rules | `(tactic| walk_at "nf") => `(tactic| try dsimp only [tSeq, tAsg, gName, tRet, tRetN, tDrop, tNext, tIfS, tTest, tB, tOp, tUn, tNil, tCons, tCB, tC, tAnd, tOr, tNot, tAndV, tOrV, tNotV, sDPut, sFld, sFldAug, tM0, tM1, tBM, tBM0, tMeth, tCall, sGPut, tGGet, tGNin, tDGet, tDNotIn, tDIn, tFld, tChain])
local macro_rules | `(tactic| walk_at "st") => `(tactic| try dsimp only [wipe, List.set_cons_zero, List.set_cons_succ])
local macro_rules | `(tactic| walk_at "ni") => `(tactic| try dsimp only [tSeq, tAsg, gName, tRet, tRetN, tDrop, tNext, tTest, tB, tOp, tUn, tNil, tCons, tCB, tC, tAnd, tOr, tNot, tAndV, tOrV, tNotV, sDPut, sFld, sFldAug, tM0, tM1, tBM, tBM0, tMeth, tCall, sGPut, tGGet, tGNin, tDGet, tDNotIn, tDIn, tFld, tChain])
variable {P : Program} {w : World} {K : PySem.W.Frag} {mg : Str → Option Value} {base : Heap}
def spStar (CS CP : Addr) : Sp := fun vs H Q _ => ∃ (Z0 H0 Z : Hp) (x : Addr) (a : Str) (s : Sc) (c : Nat) (p : Pt), vs = [.ref x, .str ⟨#[c]⟩] ∧ ScAt CS CP Z0 H0 x a s Z H ∧ SOk s ∧ s.starred = true ∧ s.ps.getLast? = some p ∧
  ∀ Z' H', ScAt CS CP Z0 H0 x a (s.star c p) Z' H' → Same Z Z' → Q (.bl true) H'
abbrev N_Scanner__take_star : List Str := ["self", "sign", "part"]
theorem sc_Scanner__take_star : FnScope N_Scanner__take_star ["self", "sign"] (defScope (inClass (top 26) 5)) := ⟨rfl, rfl, rfl, by decide +kernel, rfl, by decide +kernel, by decide +kernel⟩
theorem ok_Scanner__take_star (T : Txt K mg) : FnOk P w K mg base CX0 3 T.m_Scanner__take_star.f T.m_Scanner__take_star.fd ["self", "sign"] (spStar T.c_Scanner.C T.c_Part.C) := by
  refine T.m_Scanner__take_star.fn.ok sc_Scanner__take_star (fun vs H Q E h => ?_) (fun cdv A outer s H vs Q E hr h => ?_)
  · obtain ⟨Z0, H0, Z, x, a, s, c, p, rfl, _⟩ := h
    rfl
  · obtain ⟨Z0, H0, Z, x, a, st, c, p, rfl, ⟨ro, dx, am, af, ar, R⟩, ok, hst, hlast, kk⟩ := h
    refine ⟨_, pss_cons (ps_if (pt_not (pt_val (pe_fldK K rfl (pv 0) rfl)))
  (pss_one (ps_ret (pe_bl)))
  (pss_nil))
  (pss_cons (ps_set (i := 2) sc_Scanner__take_star.nd rfl (.inl rfl) (pe_ix (ix_listK K rfl) (pe_ix (ix_listK K rfl) (pe_ix (ix_listK K rfl) (pe_fldK K rfl (pv 0) rfl) (pe_un un_neg (pe_int)) (fun _ _ => rfl)) (pe_un un_neg (pe_int)) (fun _ _ => rfl)) (pe_un un_neg (pe_int)) (fun _ _ => rfl)))
  (pss_cons (ps_if (pt_cmpR op_ne (pv 1) (pe_str) (nomark _))
  (pss_one (ps_expr (pe_meth (pv 0) T.c_Scanner.cl T.m_Scanner__join.me (ok_Scanner__join T) (hr.mono (by decide)) T.m_Scanner__join.b .nil pass0 (pa_cons (pe_fldK K rfl (pv 2) rfl) (pa_cons (pe_fldK K rfl (pv 2) rfl) pa_nil)))))
  (pss_nil))
  (pss_cons (ps_asg (pe_make T.c_Part.mkc (ok_Part___init__ T) (hr.mono (by decide)) (by rfl) T.c_Part.mg T.c_Part.init.b .nil pass0 (pa_cons (pe_or (pe_fldK K rfl (pv 2) rfl) (pe_one (pe_cmpR op_ne (pv 1) (pe_str) (nomark _)))) (pa_cons (pe_fldK K rfl (pv 2) rfl) (pa_cons (pe_fldK K rfl (pv 2) rfl) pa_nil)))) (pg_sub (pe_ix (ix_listK K rfl) (pe_ix (ix_listK K rfl) (pe_fldK K rfl (pv 0) rfl) (pe_un un_neg (pe_int)) (fun _ _ => rfl)) (pe_un un_neg (pe_int)) (fun _ _ => rfl)) (pe_un un_neg (pe_int)) set_list))
  (pss_one (ps_ret (pe_bl)))))), ?_⟩
    have eps : st.ps.dropLast ++ [p] = st.ps := by
      obtain ⟨ys, e⟩ := List.getLast?_eq_some_iff.mp hlast
      rw [e, List.dropLast_concat]
    have mp : p ∈ st.ps := List.mem_of_getLast? hlast
    have pok := ok.ps p mp
    have hx := R.hx
    rw [hst] at hx
    obtain ⟨vs, fa, wb, ba, ws, h1, h2, h3, h4, h5, h6, put⟩ := R.topB
    rw [← eps] at h6
    obtain ⟨ws0, wp, rfl, pr0, pp⟩ := pr_snoc_inv h6
    obtain ⟨xp, dxp, vf, vl, rfl, hxp, hvf, hvl⟩ := pp
    walk_at "ni"
    refine k_ifN (fun R r => ⟨_, rfl, x, _, dx, _, _, rfl, hx, T.c_Scanner.cl, T.n_Scanner_starred, rfl, true, rfl, r⟩) ?_
    -- part = self.frames[-1][-1][-1]
    refine ⟨_, rfl, x, _, dx, _, _, rfl, R.hx, T.c_Scanner.cl, T.n_Scanner_frames, rfl, _, rfl, ar, _, _, _, rfl, rfl, SqL.of h1, atI_last _ _, _, rfl, fa, _, _, _, rfl, rfl, SqL.of h3, atI_last _ _, _, rfl, ba, _, _, _, rfl, rfl, SqL.of h5, atI_last _ _, ?_⟩
    walk_at "ni"
    -- if sign != '?'
    refine k_ifS (!decide (c = 63)) (fun H2 => ∃ Z2, ScR T.c_Scanner.C T.c_Part.C Z0 H0 x a ro dx am af ar { st with follow := if c ≠ 63 then joinF st.follow p.lst p.fst else st.follow } Z2 H2 ∧ Same Z Z2) (fun R r => ⟨_, rfl, rfl, _, rfl, by rw [sgn (k := 63) (by decide)]; exact r⟩) (fun hb D' hD => ?_) (fun hb D' hD => ?_) (fun H2 ⟨Z2, R2, s2⟩ => ?_)
    · have hc : c ≠ 63 := by simpa using hb
      walk_at "nf"
      refine ⟨_, rfl, x, dx, _, rfl, R.hx, rfl, _, rfl, xp, _, dxp, _, _, rfl, R.gr.zh _ _ hxp, T.c_Part.cl, T.n_Part_last, rfl, _, rfl, xp, _, dxp, _, _, rfl, R.gr.zh _ _ hxp, T.c_Part.cl, T.n_Part_first, rfl, ?_⟩
      refine ⟨Z, x, af, vl, vf, _, st.follow, p.lst, p.fst, rfl, R.gr.zh, R.fol, hvl, hvf, ok.fo, pok.lst, pok.fst, fun Z5 H5 g5 F5 => hD H5 ⟨Z5, ?_, g5.z⟩⟩
      rw [if_pos hc]
      exact R.follow g5 F5
    · have hc : ¬ c ≠ 63 := by simpa using hb
      exact hD H ⟨Z, by rw [if_neg hc]; exact R, Same.refl _⟩
    · have hxp2 := s2 _ _ hxp
      walk_at "nf"
      -- Part(part.nullable or sign != '+', part.first, part.last)
      have fin : ∀ nb : Bool, nb = (p.nul || decide (c ≠ 43)) → ∀ (R : VK), (∀ Z8 H8 xn dxn, Gr Z2 H2 Z8 H8 → Z8 xn = some (.ins T.c_Part.C dxn [("nullable", .bl nb), ("first", vf), ("last", vl)]) → R (.ref xn) H8) →
          (tFld K (tVar 2) "first") [some (.ref x), some (.str ⟨#[c]⟩), some (.ref xp)] H2 (fun v2 H3 => (tFld K (tVar 2) "last") [some (.ref x), some (.str ⟨#[c]⟩), some (.ref xp)] H3 fun v3 H4 => NewK T.c_Part.C (spNew3 T.c_Part.C "nullable" "first" "last") E0 [.bl nb, v2, v3] H4 R) := by
        intro nb hnb R hR
        exact ⟨_, rfl, xp, _, dxp, _, _, rfl, R2.gr.zh _ _ hxp2, T.c_Part.cl, T.n_Part_first, rfl, _, rfl, xp, _, dxp, _, _, rfl, R2.gr.zh _ _ hxp2, T.c_Part.cl, T.n_Part_last, rfl, x_new3 R2.gr.zh fun xn dxn Z8 H8 g8 hxn => hR Z8 H8 xn dxn g8 hxn⟩
      have fin2 : ∀ nb : Bool, nb = (p.nul || decide (c ≠ 43)) → ∀ Z8 H8 xn dxn, Gr Z2 H2 Z8 H8 → Z8 xn = some (.ins T.c_Part.C dxn [("nullable", .bl nb), ("first", vf), ("last", vl)]) →
          (tFld K (tVar 0) "frames") [some (.ref x), some (.str ⟨#[c]⟩), some (.ref xp)] H8 fun v1 H1 => ∃ i1, V.int 1 = .int i1 ∧ rIxL K v1 (.int (-i1)) H1 fun v2 H2 => ∃ i2, V.int 1 = .int i2 ∧ rIxL K v2 (.int (-i2)) H2 fun v3 H3 => ∃ i3, V.int 1 = .int i3 ∧ rSetL v3 (.int (-i3)) (.ref xn) H3 fun H4 => Q (.bl true) H4 := by
        intro nb hnb Z8 H8 xn dxn g8 hxn
        have R3 := R2.grow g8
        obtain ⟨vs, fa, wb, ba, ws, h1, h2, h3, h4, h5, h6, put⟩ := R3.topB
        rw [show ({ st with follow := if c ≠ 63 then joinF st.follow p.lst p.fst else st.follow } : Sc).ps = st.ps from rfl, ← eps] at h6
        obtain ⟨ws0, wp, rfl, pr0, pp⟩ := pr_snoc_inv h6
        refine ⟨_, rfl, x, _, dx, _, _, rfl, R3.hx, T.c_Scanner.cl, T.n_Scanner_frames, rfl, _, rfl, ⟨ar, _, _, _, rfl, rfl, SqL.of h1, atI_last _ _, _, rfl, ⟨fa, _, _, _, rfl, rfl, SqL.of h3, atI_last _ _, _, rfl, ba, _, _, _, rfl, rfl, h5, ixN_last (by rw [List.length_append]; exact Nat.succ_pos _), ?_⟩⟩⟩
        have el : (ws0 ++ [wp]).length - 1 = ws0.length := by rw [List.length_append]; rfl
        rw [el, set_last]
        have R4 := put (ws0 ++ [.ref xn]) (st.ps.dropLast ++ [⟨p.nul || decide (c ≠ 43), p.fst, p.lst⟩]) (Paired.snoc pr0 ⟨xn, dxn, vf, vl, rfl, by rw [hxn, hnb], Mono.mono (s2.trans g8.z) hvf, Mono.mono (s2.trans g8.z) hvl⟩)
        exact kk Z8 _ ⟨ro, dx, am, af, ar, R4⟩ (s2.trans g8.z)
      refine a_new3 ⟨_, rfl, xp, _, dxp, _, _, rfl, R2.gr.zh _ _ hxp2, T.c_Part.cl, T.n_Part_nullable, rfl, p.nul, rfl, ?_⟩
      cases hpn : p.nul with
      | true =>
        have hnb : true = (p.nul || decide (c ≠ 43)) := by rw [hpn]; rfl
        exact ifY rfl (fin true hnb _ fun Z8 H8 xn dxn g8 hxn => fin2 true hnb Z8 H8 xn dxn g8 hxn)
      | false =>
        have hnb : (!decide (c = 43)) = (p.nul || decide (c ≠ 43)) := by rw [hpn]; simp
        refine ifN rfl ⟨_, rfl, rfl, ?_⟩
        rw [sgn (k := 43) (by decide)]
        exact fin _ hnb _ fun Z8 H8 xn dxn g8 hxn => fin2 _ hnb Z8 H8 xn dxn g8 hxn
def spClose (CS CP : Addr) : Sp := fun vs H Q _ => ∃ (Z0 H0 Z : Hp) (x : Addr) (a : Str) (s : Sc) (f : List (List Pt) × List Pt) (r : List (List (List Pt) × List Pt)), vs = [.ref x] ∧ ScAt CS CP Z0 H0 x a s Z H ∧ SOk s ∧ s.fs = f :: r ∧
  ∀ Z' H', ScAt CS CP Z0 H0 x a (s.close f r) Z' H' → Same Z Z' → Q (.bl true) H'
abbrev N_Scanner__close : List Str := ["self", "frame"]
theorem sc_Scanner__close : FnScope N_Scanner__close ["self"] (defScope (inClass (top 26) 6)) := ⟨rfl, rfl, rfl, by decide +kernel, rfl, by decide +kernel, by decide +kernel⟩
theorem ok_Scanner__close (T : Txt K mg) : FnOk P w K mg base CX0 5 T.m_Scanner__close.f T.m_Scanner__close.fd ["self"] (spClose T.c_Scanner.C T.c_Part.C) := by
  refine T.m_Scanner__close.fn.ok sc_Scanner__close (fun vs H Q E h => ?_) (fun cdv A outer s H vs Q E hr h => ?_)
  · obtain ⟨Z0, H0, Z, x, a, s, f, r, rfl, _⟩ := h
    rfl
  · obtain ⟨Z0, H0, Z, x, a, st, f, r, rfl, ⟨ro, dx, am, af, ar, R⟩, ok, hf, kk⟩ := h
    refine ⟨_, pss_cons (ps_if (pt_val (pe_meth0 (pv 0) T.c_Scanner.cl T.m_Scanner_is_closed.me (ok_Scanner_is_closed T) (hr.mono (by decide)) T.m_Scanner_is_closed.b .nil pass0))
  (pss_one (ps_ret (pe_bl)))
  (pss_nil))
  (pss_cons (ps_set (i := 1) sc_Scanner__close.nd rfl (.inl rfl) (pe_bm0K K rfl PySem.F.plainAttrs_list PySem.F.slot_list_pop PySem.F.type_list_pop mt_pop (pe_fldK K rfl (pv 0) rfl)))
  (pss_cons (ps_expr (pe_meth (pv 0) T.c_Scanner.cl T.m_Scanner__add.me (ok_Scanner__add T) (hr.mono (by decide)) T.m_Scanner__add.b .nil pass0 (pa_cons (pe_meth (pv 0) T.c_Scanner.cl T.m_Scanner__choice.me (ok_Scanner__choice T) (hr.mono (by decide)) T.m_Scanner__choice.b .nil pass0 (pa_cons (pv 1) pa_nil)) pa_nil)))
  (pss_one (ps_ret (pe_bl))))), ?_⟩
    have hcl : st.fs.isEmpty = false := by rw [hf]; rfl
    obtain ⟨vs, vt, r1, sz, hfr, R1⟩ := R.pop hf
    have mf : f ∈ st.fs := by rw [hf]; exact List.mem_cons_self
    obtain ⟨f1, f2, f3, f4⟩ := ok.fs f mf
    have s12 := ok.s12
    walk_at "nf"
    refine ⟨_, rfl, x, dx, _, rfl, R.hx, rfl, Z0, H0, Z, x, a, st, rfl, ⟨ro, dx, am, af, ar, R⟩, false, by rw [hcl], ifN rfl ?_⟩
    -- frame = self.frames.pop()
    refine ⟨_, rfl, x, _, dx, _, _, rfl, R.hx, T.c_Scanner.cl, T.n_Scanner_frames, rfl, .inl ⟨rfl, _, SqL.of r1⟩, ar, _, vt, rfl, rfl, r1, by rw [List.length_append]; exact List.getElem?_concat_length, ?_⟩
    rw [List.dropLast_concat]
    -- self._add(self._choice(frame))
    obtain ⟨b, bs, etop⟩ : ∃ b bs, st.top = b :: bs := by
      unfold Sc.top
      cases st.bs with
      | nil => exact ⟨_, _, rfl⟩
      | cons b bs => exact ⟨_, _, rfl⟩
    have htop := ok.top
    have lbs := ok.lbs
    have ltop : st.top.length = st.bs.length + 1 := by unfold Sc.top; rw [List.length_append]; rfl
    rw [etop] at hfr htop
    have lbs2 : bs.length ≤ 1000 := by rw [etop, List.length_cons] at ltop; omega
    refine ⟨_, rfl, x, dx, _, rfl, R1.hx, rfl, _, rfl, x, dx, _, rfl, R1.hx, rfl, _, rfl, ?_⟩
    refine ⟨_, x, af, vt, _, st.follow, b, bs, rfl, R1.gr.zh, R1.fol, hfr, lbs2, ok.fo, htop, fun v Z2 H2 g2 F2 hv => ?_⟩
    have R2 := R1.follow g2 F2
    refine ⟨Z0, H0, Z2, x, a, _, v, _, rfl, ⟨_, dx, am, af, ar, R2⟩, hv, by show f.2.length ≤ 1000; omega, fun H3 S3 => ?_⟩
    refine kk Z2 H3 ?_ (sz.trans g2.z)
    unfold Sc.close
    rw [etop]
    exact S3
end
end K87

set_option autoImplicit true
set_option Elab.async false
set_option linter.all false
set_option maxRecDepth 100000
set_option maxHeartbeats 4000000
set_option pp.deepTerms.threshold 6
/-! K87D22: Scanner.take. -/
namespace K87
open PySem L2 PySem.Spec PyProof.Rows
section
local macro_rules | `(tactic| walk_at "nf") => `(tactic| try dsimp only [tSeq, tAsg, gName, tRet, tRetN, tDrop, tNext, tIfS, tTest, tB, tOp, tUn, tNil, tCons, tCB, tC, tAnd, tOr, tNot, tAndV, tOrV, tNotV, sDPut, sFld, sFldAug, tM0, tM1, tBM, tBM0, tMeth, tCall, sGPut, tGGet, tGNin, tDGet, tDNotIn, tDIn, tFld, tChain])
local macro_rules | `(tactic| walk_at "st") => `(tactic| try dsimp only [wipe, List.set_cons_zero, List.set_cons_succ])
local macro_rules | `(tactic| walk_at "ni") => `(tactic| try dsimp only [tSeq, tAsg, gName, tRet, tRetN, tDrop, tNext, tTest, tB, tOp, tUn, tNil, tCons, tCB, tC, tAnd, tOr, tNot, tAndV, tOrV, tNotV, sDPut, sFld, sFldAug, tM0, tM1, tBM, tBM0, tMeth, tCall, sGPut, tGGet, tGNin, tDGet, tDNotIn, tDIn, tFld, tChain])
variable {P : Program} {w : World} {K : PySem.W.Frag} {mg : Str → Option Value} {base : Heap}
def spTake (CS CP : Addr) : Sp := fun vs H Q _ => ∃ (Z0 H0 Z : Hp) (x : Addr) (a : Str) (s s' : Sc) (c : Nat), vs = [.ref x, .str ⟨#[c]⟩] ∧ ScAt CS CP Z0 H0 x a s Z H ∧ SOk s ∧ s.signs < 12 ∧ a ∈ AL ∧ takeF (cs a) s c = some s' ∧
  ∀ Z' H', ScAt CS CP Z0 H0 x a s' Z' H' → Same Z Z' → Q (.bl true) H'
abbrev N_Scanner_take : List Str := ["self", "sign"]
theorem sc_Scanner_take : FnScope N_Scanner_take ["self", "sign"] (defScope (inClass (top 26) 2)) := ⟨rfl, rfl, rfl, by decide +kernel, rfl, by decide +kernel, by decide +kernel⟩
theorem ok_Scanner_take (T : Txt K mg) : FnOk P w K mg base CX0 6 T.m_Scanner_take.f T.m_Scanner_take.fd ["self", "sign"] (spTake T.c_Scanner.C T.c_Part.C) := by
  refine T.m_Scanner_take.fn.ok sc_Scanner_take (fun vs H Q E h => ?_) (fun cdv A outer s H vs Q E hr h => ?_)
  · obtain ⟨Z0, H0, Z, x, a, s, s', c, rfl, _⟩ := h
    rfl
  · obtain ⟨Z0, H0, Z, x, a, st, s', c, rfl, ⟨ro, dx, am, af, ar, R⟩, ok, h12, ha, htk, kk⟩ := h
    refine ⟨_, pss_cons (ps_fldaug (pv 0) (pe_int) in_add)
  (pss_cons (ps_if (pt_cmpR op_in_sign (pv 1) (pe_glob (v := .str "*+?") (by rfl) T.k_STARS ⟨_, rfl⟩) rfl)
  (pss_one (ps_ret (pe_meth (pv 0) T.c_Scanner.cl T.m_Scanner__take_star.me (ok_Scanner__take_star T) (hr.mono (by decide)) T.m_Scanner__take_star.b .nil pass0 (pa_cons (pv 1) pa_nil))))
  (pss_nil))
  (pss_cons (ps_if (pt_cmpR op_eq (pv 1) (pe_str) (nomark _))
  (pss_cons (ps_expr (pe_bmK K rfl PySem.F.plainAttrs_list PySem.F.slot_list_append PySem.F.type_list_append mt_append (pe_fldK K rfl (pv 0) rfl) (pa_cons (pe_lst (pa_cons (pe_lst pa_nil) pa_nil)) pa_nil)))
  (pss_cons (ps_fld (pv 0) (pe_bl) rfl)
  (pss_one (ps_ret (pe_bl)))))
  (pss_nil))
  (pss_cons (ps_if (pt_cmpR op_eq (pv 1) (pe_str) (nomark _))
  (pss_one (ps_ret (pe_meth0 (pv 0) T.c_Scanner.cl T.m_Scanner__close.me (ok_Scanner__close T) (hr.mono (by decide)) T.m_Scanner__close.b .nil pass0)))
  (pss_nil))
  (pss_cons (ps_if (pt_cmpR op_eq (pv 1) (pe_str) (nomark _))
  (pss_cons (ps_expr (pe_bmK K rfl PySem.F.plainAttrs_list PySem.F.slot_list_append PySem.F.type_list_append mt_append (pe_ix (ix_listK K rfl) (pe_fldK K rfl (pv 0) rfl) (pe_un un_neg (pe_int)) (fun _ _ => rfl)) (pa_cons (pe_lst pa_nil) pa_nil)))
  (pss_cons (ps_fld (pv 0) (pe_bl) rfl)
  (pss_one (ps_ret (pe_bl)))))
  (pss_nil))
  (pss_cons (ps_if (PW.pt (pw_and (pt_cmpR op_ne (pv 1) (pe_str) (nomark _)) (pw_and1 (pt_cmpR op_notIn_sign (pv 1) (pe_fldK K rfl (pv 0) rfl) rfl))))
  (pss_one (ps_ret (pe_bl)))
  (pss_nil))
  (pss_cons (ps_expr (pe_meth (pv 0) T.c_Scanner.cl T.m_Scanner__add_place.me (ok_Scanner__add_place T) (hr.mono (by decide)) T.m_Scanner__add_place.b .nil pass0 (pa_cons (pe_ifExp (pt_cmpR op_eq (pv 1) (pe_str) (nomark _)) (pe_non) (pe_m1 PySem.F.slot_str_index PySem.F.type_str_index mt_sindex (pe_fldK K rfl (pv 0) rfl) (pv 1))) pa_nil)))
  (pss_one (ps_ret (pe_bl))))))))), ?_⟩
    walk_at "nf"
    -- self.signs += 1
    refine ⟨_, rfl, x, _, dx, _, _, rfl, R.hx, T.c_Scanner.cl, T.n_Scanner_signs, rfl, _, _, rfl, rfl, dx, _, R.hx, (by show 6 < 1000; decide), ?_⟩
    have R1 : ScR T.c_Scanner.C T.c_Part.C Z0 H0 x a ro dx am af ar { st with signs := st.signs + 1 } Z _ := R.self (st.signs + 1) st.starred
    have ok1 := ok.up h12
    have hps := ok.lps
    have hbs := ok.lbs
    have hfs := ok.lfs
    have hmk := ok.few
    have hfo := ok.fo.len
    have es : (Str.ofString "*+?").cps.toList = [42, 43, 63] := by decide
    unfold takeF at htk
    simp only at htk
    refine ⟨_, rfl, c, _, rfl, rfl, _, rfl, ?_⟩
    by_cases h1 : c ∈ [42, 43, 63]
    · refine ifY (by rw [es]; exact decide_eq_true h1) ?_
      rw [if_pos h1] at htk
      by_cases hst : st.starred = true
      · rw [if_pos hst] at htk
        obtain ⟨p, hp, e⟩ := Option.map_eq_some_iff.mp htk
        refine ⟨_, rfl, x, dx, _, rfl, R1.hx, rfl, _, rfl, Z0, H0, Z, x, a, _, c, p, rfl, ⟨ro, dx, am, af, ar, R1⟩, ok1, hst, hp, fun Z2 H2 S2 s2 => ?_⟩
        rw [e] at S2
        exact kk Z2 H2 S2 s2
      · rw [if_neg hst] at htk; cases htk
    rw [if_neg h1] at htk
    refine ifN (by rw [es]; exact decide_eq_false h1) ⟨_, rfl, rfl, _, rfl, ?_⟩
    rw [sgn (k := 40) (by decide)]
    by_cases h2 : c = 40
    · rw [if_pos h2] at htk
      cases htk
      obtain ⟨vs, fa, wb, ba, ws, t1, t2, t3, t4, t5, t6, put⟩ := R1.topB
      have t2' : vs.length = st.fs.length := t2
      refine ifY (decide_eq_true h2) ⟨_, rfl, x, _, dx, _, _, rfl, R1.hx, T.c_Scanner.cl, T.n_Scanner_frames, rfl, .inl ⟨rfl, _, SqL.of t1⟩, a_lst1 (a_lst0 (x_lstN (by decide) fun p hp => x_lstN (by show 1 ≤ 1000; decide) fun q hq => ?_))⟩
      obtain ⟨ro', R2⟩ := R1.frame t1 hp hq
      have n1 : ar ≠ p := ne_of_none t1 hp
      have n2 : ar ≠ q := ne_of_none (by rw [upd_ne n1]; exact t1) hq
      refine ⟨ar, _, _, rfl, rfl, by rw [upd_ne n2, upd_ne n1]; exact t1, sz6' (by rw [List.length_append, t2']; show _ + 1 ≤ _; omega), ?_⟩
      refine ⟨_, rfl, x, _, dx, _, rfl, R2.hx, T.c_Scanner.cl, T.n_Scanner_starred, (by show 6 < 1000; decide), ?_⟩
      exact kk Z _ ⟨ro', dx, am, af, ar, R2.self (st.signs + 1) false⟩ (Same.refl _)
    rw [if_neg h2] at htk
    refine ifN (decide_eq_false h2) ⟨_, rfl, rfl, _, rfl, ?_⟩
    rw [sgn (k := 41) (by decide)]
    by_cases h3 : c = 41
    · rw [if_pos h3] at htk
      refine ifY (decide_eq_true h3) ?_
      cases hfs' : st.fs with
      | nil => rw [hfs'] at htk; cases htk
      | cons f r =>
        rw [hfs'] at htk
        cases htk
        refine ⟨_, rfl, x, dx, _, rfl, R1.hx, rfl, Z0, H0, Z, x, a, _, f, r, rfl, ⟨ro, dx, am, af, ar, R1⟩, ok1, hfs', fun Z2 H2 S2 s2 => kk Z2 H2 ?_ s2⟩
        exact S2
    rw [if_neg h3] at htk
    refine ifN (decide_eq_false h3) ⟨_, rfl, rfl, _, rfl, ?_⟩
    rw [sgn (k := 124) (by decide)]
    by_cases h4 : c = 124
    · rw [if_pos h4] at htk
      cases htk
      obtain ⟨vs, fa, wb, ba, ws, t1, t2, t3, t4, t5, t6, put⟩ := R1.topB
      have t4' : wb.length = st.bs.length := t4
      refine ifY (decide_eq_true h4) ⟨_, rfl, x, _, dx, _, _, rfl, R1.hx, T.c_Scanner.cl, T.n_Scanner_frames, rfl, _, rfl, ar, _, _, _, rfl, rfl, SqL.of t1, atI_last _ _, .inl ⟨rfl, _, SqL.of t3⟩, a_lst0 (x_lstN (by decide) fun p hp => ?_)⟩
      obtain ⟨ro', R2⟩ := R1.branch t1 t3 hp
      have n1 : fa ≠ p := ne_of_none t3 hp
      refine ⟨fa, _, _, rfl, rfl, by rw [upd_ne n1]; exact t3, sz6' (by rw [List.length_append, t4']; show _ + 1 ≤ _; omega), ?_⟩
      refine ⟨_, rfl, x, _, dx, _, rfl, R2.hx, T.c_Scanner.cl, T.n_Scanner_starred, (by show 6 < 1000; decide), ?_⟩
      exact kk Z _ ⟨ro', dx, am, af, ar, R2.self (st.signs + 1) false⟩ (Same.refl _)
    rw [if_neg h4] at htk
    refine ifN (decide_eq_false h4) ?_
    by_cases h5 : c ≠ 46 ∧ c ∉ cs a
    · rw [if_pos h5] at htk; cases htk
    rw [if_neg h5] at htk
    cases htk
    -- the end: a place
    have fin : (tDrop (tMeth T.c_Scanner.C "_add_place" (spPlace T.c_Scanner.C T.c_Part.C) [] E0 (tVar 0) (tCons (tIf (tTest (tOp rEq (tVar 1) (tC (.str ".")))) (tC .non) (tM1 (fun x xs H Q => ∃ a b i rest, x = .str a ∧ xs = [.str b] ∧ Builtin.Str.occurrences a b 0 a.length 1 = i :: rest ∧ Q (.int (i : Nat)) H) (tFld K (tVar 0) "alphabet") (tVar 1))) tNil))) { nx := tRet (tC (.bl true)) { nx := fun σ H => Q .non H, rt := Q }, rt := Q } [some (.ref x), some (.str ⟨#[c]⟩)] (upd H x (.ins T.c_Scanner.C dx [("alphabet", .str a), ("marks", .ref am), ("follow", .ref af), ("frames", .ref ar), ("signs", .int ((st.signs + 1 : Nat) : Int)), ("starred", .bl st.starred)])) := by
      walk_at "nf"
      refine ⟨_, rfl, x, dx, _, rfl, R1.hx, rfl, ?_⟩
      refine k_ifE (decide (c = 46)) (fun v Z2 H2 => v = vM (if c = 46 then none else some ((cs a).idxOf c)) ∧ H2 = upd H x (.ins T.c_Scanner.C dx [("alphabet", .str a), ("marks", .ref am), ("follow", .ref af), ("frames", .ref ar), ("signs", .int ((st.signs + 1 : Nat) : Int)), ("starred", .bl st.starred)])) (fun R r => ⟨_, rfl, rfl, _, rfl, by rw [sgn (k := 46) (by decide)]; exact r⟩) (fun hb R hR => ?_) (fun hb R hR => ?_) (fun v Z2 H2 ⟨ev, eh⟩ => ?_)
      · exact hR _ Z _ ⟨by rw [if_pos (of_decide_eq_true hb)]; rfl, rfl⟩
      · have hc : ¬ c = 46 := of_decide_eq_false hb
        have mc : c ∈ cs a := by
          by_cases q : c ∈ cs a
          · exact q
          · exact absurd ⟨hc, q⟩ h5
        exact ⟨_, rfl, x, _, dx, _, _, rfl, R1.hx, T.c_Scanner.cl, T.n_Scanner_alphabet, rfl, ⟨a, rfl⟩, _, rfl, a, ⟨#[c]⟩, _, [], rfl, rfl, al_idx a ha c mc, hR _ Z _ ⟨by rw [if_neg hc]; rfl, rfl⟩⟩
      · subst ev eh
        exact ⟨Z0, H0, Z, x, a, _, _, rfl, ⟨ro, dx, am, af, ar, R1⟩, by show st.ps.length ≤ 1000; omega, by show st.marks.length ≤ 1000; omega, by show st.follow.length ≤ 1000; omega, fun Z3 H3 S3 s3 => kk Z3 H3 S3 s3⟩
    refine ⟨_, rfl, rfl, _, rfl, ?_⟩
    rw [sgn (k := 46) (by decide)]
    by_cases h6 : c = 46
    · exact ifN (by rw [decide_eq_true h6]; rfl) (ifN rfl fin)
    · refine ifY (by rw [decide_eq_false h6]; rfl) ⟨_, rfl, _, rfl, x, _, dx, _, _, rfl, R1.hx, T.c_Scanner.cl, T.n_Scanner_alphabet, rfl, c, a, rfl, rfl, _, rfl, ?_⟩
      have mc : c ∈ cs a := by
        by_cases q : c ∈ cs a
        · exact q
        · exact absurd ⟨h6, q⟩ h5
      exact ifN (by rw [show decide (c ∈ a.cps.toList) = true from decide_eq_true mc]; rfl) fin
end
end K87

set_option autoImplicit true
set_option Elab.async false
set_option linter.all false
set_option maxRecDepth 100000
set_option maxHeartbeats 4000000
set_option pp.deepTerms.threshold 6
/-! K87D23: Scanner.network, scanned, Pattern.__init__. -/
namespace K87
open PySem L2 PySem.Spec PyProof.Rows
theorem isM_vM {Z : Hp} {vs : List (Option Nat)} : Paired (isM Z) (vs.map vM) vs := by
  induction vs with
  | nil => exact .nil
  | cons o vs ih => exact .cons (by cases o <;> rfl) ih
/-- a list put behind a list: a new one, frozen -/
theorem x_catL {α : Type} {p : Rep α} [Mono p] {Z H : Hp} {v1 v2 : V} {xs ys : List α} {Q : VK} (h1 : isL p Z v1 xs) (h2 : isL p Z v2 ys) (sub : Same Z H) (hl : xs.length + ys.length ≤ 1000000) (k : ∀ v Z' H', Gr Z H Z' H' → isL p Z' v (xs ++ ys) → Q v H') : rCat v1 v2 H Q := by
  obtain ⟨a, us, rfl, ha, pa⟩ := h1
  obtain ⟨b, ws, rfl, hb, pb⟩ := h2
  refine ⟨a, b, us, ws, rfl, rfl, sub _ _ ha, sub _ _ hb, sz6 (by rw [Paired.length pa, Paired.length pb]; exact hl), fun q hq => ?_⟩
  exact k _ (upd Z q (.lst (us ++ ws))) _ ((Grow.refl sub).allocZ hq) ⟨q, _, rfl, upd_same, Paired.mapP (pr_app pa pb) fun _ _ r => Mono.mono (same_upd (sub.free hq)) r⟩
theorem Gr.rebase {Z H Z' H' : Hp} {x : Addr} {o u : HO} (g : Gr Z H Z' H') (hx : H x = some u) (hz : Z x = none) : Gr Z (upd H x o) Z' (upd H' x o) := by
  have z' : Z' x = none := g.keepZ hz hx
  refine ⟨g.z, fun b v m e => ?_, fun b v e => ?_, fun b v e => ?_, fun b v e => ?_⟩
  · by_cases c : b = x
    · subst c; rw [upd_same] at e ⊢; exact e
    · rw [upd_ne c] at e ⊢; exact g.h b v m e
  · by_cases c : b = x
    · subst c; exact ⟨o, upd_same⟩
    · rw [upd_ne c] at e ⊢; exact g.dom b v e
  · rw [upd_ne (ne_of_none e z')]; exact g.zh b v e
  · rcases g.new b v e with q | q
    · exact .inl q
    · right
      rw [upd_ne (fun z => by subst z; rw [hx] at q; cases q)]; exact q
theorem Gr.on {Z H Z' H' : Hp} {x : Addr} {o u : HO} (g : Gr Z (upd H x o) Z' H') (hx : H x = some u) : Grow (fun y => y = x) Z H Z' H' :=
  ⟨g.z, fun b v m e => g.keepH (by rw [upd_ne m]; exact e), fun b v e => by
    by_cases c : b = x
    · subst c; exact ⟨o, g.keepH upd_same⟩
    · exact ⟨v, g.keepH (by rw [upd_ne c]; exact e)⟩, g.zh, fun b v e => by
    rcases g.new b v e with q | q
    · exact .inl q
    · right
      by_cases c : b = x
      · subst c; rw [upd_same] at q; cases q
      · rw [upd_ne c] at q; exact q⟩
theorem ScAt.rebase {CS CP : Addr} {Z0 H0 Z H : Hp} {x y : Addr} {a : Str} {s : Sc} {o u : HO} (S : ScAt CS CP Z0 H0 x a s Z H) (hy : H0 y = some u) (hz : Z0 y = none) : ScAt CS CP Z0 (upd H0 y o) x a s Z (upd H y o) := by
  obtain ⟨ro, dx, am, af, ar, R⟩ := S
  have ny : ∀ b r, ro b = some r → b ≠ y := fun b r h e => by
    subst e
    rw [(R.own _ _ h).1] at hy; cases hy
  have kp : Kp (fun _ => True) ro ro Z H Z (upd H y o) := ⟨Same.refl _, fun b r v h _ e => ⟨h, by rw [upd_ne (ny b r h)]; exact e⟩⟩
  obtain ⟨vf, f1, f2⟩ := R.hf
  obtain ⟨vs, vt, r1, r2, r3, r4⟩ := R.hr
  refine ⟨ro, dx, am, af, ar, R.gr.rebase hy hz, fun b r h => ?_, R.rx, R.rm, R.rf, R.rr, (kp.k _ _ _ R.rx trivial R.hx).2, (kp.k _ _ _ R.rm trivial R.hm).2, ⟨vf, (kp.k _ _ _ R.rf trivial f1).2, f2⟩, ⟨vs, vt, (kp.k _ _ _ R.rr trivial r1).2, r2, r3.kp kp (fun _ _ _ _ => trivial), r4.kp kp fun _ _ => trivial⟩⟩
  obtain ⟨h1, h2, v, h3⟩ := R.own b r h
  exact ⟨by rw [upd_ne (ny b r h)]; exact h1, h2, v, by rw [upd_ne (ny b r h)]; exact h3⟩
section
local macro_rules | `(tactic| walk_at "nf") => `(tactic| try dsimp only [tSeq, tAsg, gName, tRet, tRetN, tDrop, tNext, tIfS, tTest, tB, tOp, tUn, tNil, tCons, tCB, tC, tAnd, tOr, tNot, tAndV, tOrV, tNotV, sDPut, sFld, sFldAug, tM0, tM1, tBM, tBM0, tMeth, tCall, sGPut, tGGet, tGNin, tDGet, tDNotIn, tDIn, tFld, tChain])
local macro_rules | `(tactic| walk_at "st") => `(tactic| try dsimp only [wipe, List.set_cons_zero, List.set_cons_succ])
local macro_rules | `(tactic| walk_at "ni") => `(tactic| try dsimp only [tSeq, tAsg, gName, tRet, tRetN, tDrop, tNext, tTest, tB, tOp, tUn, tNil, tCons, tCB, tC, tAnd, tOr, tNot, tAndV, tOrV, tNotV, sDPut, sFld, sFldAug, tM0, tM1, tBM, tBM0, tMeth, tCall, sGPut, tGGet, tGNin, tDGet, tDNotIn, tDIn, tFld, tChain])
variable {P : Program} {w : World} {K : PySem.W.Frag} {mg : Str → Option Value} {base : Heap}
def spNetw (CS CP CN : Addr) : Sp := fun vs H Q _ => ∃ (Z0 H0 Z : Hp) (x : Addr) (a : Str) (s : Sc), vs = [.ref x] ∧ ScAt CS CP Z0 H0 x a s Z H ∧ SOk s ∧ s.fs = [] ∧
  ∀ v Z' H', Gr Z0 H0 Z' H' → isNet CN Z' v s.net → Q v H'
abbrev N_Scanner_network : List Str := ["self", "whole", "follow", "places", "ends"]
theorem sc_Scanner_network : FnScope N_Scanner_network ["self"] (defScope (inClass (top 26) 10)) := ⟨rfl, rfl, rfl, by decide +kernel, rfl, by decide +kernel, by decide +kernel⟩
theorem ok_Scanner_network (T : Txt K mg) : FnOk P w K mg base CX0 5 T.m_Scanner_network.f T.m_Scanner_network.fd ["self"] (spNetw T.c_Scanner.C T.c_Part.C T.c_Network.C) := by
  refine T.m_Scanner_network.fn.ok sc_Scanner_network (fun vs H Q E h => ?_) (fun cdv A outer s H vs Q E hr h => ?_)
  · obtain ⟨Z0, H0, Z, x, a, s, rfl, _⟩ := h
    rfl
  · obtain ⟨Z0, H0, Z, x, a, st, rfl, ⟨ro, dx, am, af, ar, R⟩, ok, hfs, kk⟩ := h
    refine ⟨_, pss_cons (ps_set (i := 1) sc_Scanner_network.nd rfl (.inl rfl) (pe_meth (pv 0) T.c_Scanner.cl T.m_Scanner__choice.me (ok_Scanner__choice T) (hr.mono (by decide)) T.m_Scanner__choice.b .nil pass0 (pa_cons (pe_ix (ix_listK K rfl) (pe_fldK K rfl (pv 0) rfl) (pe_int) (fun _ _ => rfl)) pa_nil)))
  (pss_cons (ps_set (i := 2) sc_Scanner_network.nd rfl (.inl rfl) (pe_op op_cat (pe_lst (pa_cons (pe_callTy (call_list_ofK K rfl) (by rfl) T.b_list (by decide +kernel) (pa_cons (pe_fldK K rfl (pv 1) rfl) pa_nil)) pa_nil)) (pe_lc (own := [("places", 3)]) rfl sc_Scanner_network.nd (pi_listK K rfl (pe_slice (sl_listK K rfl) (pe_fldK K rfl (pv 0) rfl) (po_some (pe_int)) po_none)) (blkOk_by (N := N_Scanner_network) (sc := defScope (inClass (top 26) 10)) (by decide +kernel)) (fun _ _ _ _ _ => pg_name (i := 3) sc_Scanner_network.nd rfl (.inl rfl) (.inr rfl)) (fun _ _ _ _ _ => pts_nil) (fun _ _ _ _ _ => pe_callTy (call_list_ofK K rfl) (by rfl) T.b_list (by decide +kernel) (pa_cons (pv 3) pa_nil)))))
  (pss_cons (ps_set (i := 4) sc_Scanner_network.nd rfl (.inl rfl) (pe_op op_cat (pe_ifExp (pt_val (pe_fldK K rfl (pv 1) rfl)) (pe_lst (pa_cons (pe_int) pa_nil)) (pe_lst pa_nil)) (pe_fldK K rfl (pv 1) rfl)))
  (pss_one (ps_ret (pe_make T.c_Network.mkc (ok_Network___init__ T) (hr.mono (by decide)) (by rfl) T.c_Network.mg T.c_Network.init.b .nil pass0 (pa_cons (pe_callTy (call_list_ofK K rfl) (by rfl) T.b_list (by decide +kernel) (pa_cons (pe_fldK K rfl (pv 0) rfl) pa_nil)) (pa_cons (pv 2) (pa_cons (pv 4) pa_nil)))))))), ?_⟩
    obtain ⟨vs, vt, r1, r2, r3, g1, s1, hfr, F1⟩ := R.frz
    have n1 : af ≠ am := ro_ne R.rf R.rm (by decide)
    have n2 : af ≠ x := ro_ne R.rf R.rx (by decide)
    generalize frzZ st.fs.length ro Z H = Z1 at g1 s1 hfr F1
    rw [hfs] at r2
    obtain rfl : vs = [] := List.length_eq_zero_iff.mp r2
    obtain ⟨b, bs, etop⟩ : ∃ b bs, st.top = b :: bs := by
      unfold Sc.top
      cases st.bs with
      | nil => exact ⟨_, _, rfl⟩
      | cons b bs => exact ⟨_, _, rfl⟩
    have htop := ok.top
    have lbs := ok.lbs
    have s12 := ok.s12
    have ltop : st.top.length = st.bs.length + 1 := by unfold Sc.top; rw [List.length_append]; rfl
    obtain ⟨c1, c2⟩ := choF_ok ok.fo htop
    rw [etop] at hfr htop
    have lbs2 : bs.length ≤ 1000 := by rw [etop, List.length_cons] at ltop; omega
    walk_at "nf"
    -- whole = self._choice(self.frames[0])
    refine ⟨_, rfl, x, dx, _, rfl, R.hx, rfl, _, rfl, x, _, dx, _, _, rfl, R.hx, T.c_Scanner.cl, T.n_Scanner_frames, rfl, x_ixm (i := 0) r1 rfl ?_⟩
    refine ⟨Z1, x, af, vt, _, st.follow, b, bs, rfl, g1.zh, F1, hfr, lbs2, ok.fo, htop, fun vw Z2 H2 g2 F2 hw => ?_⟩
    rw [← etop] at F2 hw
    have gg : Gr Z0 H0 Z2 H2 := Grow.fresh g1 g2 fun y e => by subst e; exact (R.own _ _ R.rf).1
    have hx2 := g2.h x _ (fun z => n2 z.symm) R.hx
    have hm2 := g2.h am _ (fun z => n1 z.symm) R.hm
    obtain ⟨dx', v1, v2, v4, v5, v6, vf, q1, q2, q3, q4⟩ := F2
    have hm13 : st.marks.length ≤ 13 := ok.fo.few
    have enet : st.net = ⟨st.marks, (choF st.follow st.top).2.fst :: (choF st.follow st.top).1.drop 1, (if (choF st.follow st.top).2.nul = true then [0] else []) ++ (choF st.follow st.top).2.lst⟩ := rfl
    rw [enet] at kk
    generalize choF st.follow st.top = ch at c1 c2 q4 hw kk
    obtain ⟨xw, dxw, wf, wl, rfl, hxw, hwf, hwl⟩ := hw
    have lfst := c2.fst.few
    have llst := c2.lst.few
    have lfo := c1.len
    -- follow
    refine a_lst1 ?_
    walk_at "nf"
    refine ⟨_, rfl, xw, _, dxw, _, _, rfl, gg.zh _ _ hxw, T.c_Part.cl, T.n_Part_first, rfl, x_lstOf hwf gg.zh fun v3 Z3 H3 g3 h3 => x_lstZ g3.zh (by show 1 ≤ 1000; decide) fun t Z4 H4 g4 ht => ?_⟩
    have g24 := g3.trans g4
    refine c_list ⟨_, rfl, x, _, dx, _, _, rfl, g24.keepH hx2, T.c_Scanner.cl, T.n_Scanner_follow, rfl, ((1 : Nat) : Int), rfl, af, vf, rfl, SqL.of (g24.keepH q3), fun p hp => ?_⟩
    rw [cut1]
    have g5 : Gr Z4 H4 (upd Z4 p (.lst (vf.drop 1))) (upd H4 p (.lst (vf.drop 1))) := (Grow.refl g4.zh).allocZ hp
    have hp5 : isL (isL isN) (upd Z4 p (.lst (vf.drop 1))) (.ref p) (ch.1.drop 1) := ⟨p, _, rfl, upd_same, Paired.mapP (pr_drop 1 q4) fun _ _ r => Mono.mono (g24.z.trans g5.z) r⟩
    refine k_mapL (K := K) (p := isL isN) (q := isL isN) id hp5 g5.zh (by rw [List.length_drop]; omega) (by decide) (fun i row wr Z6 H6 R6 hi pr g6 hR => ⟨_, rfl, x_lstOf pr g6.zh fun w7 Z7 H7 g7 h7 => hR w7 Z7 H7 g7 h7⟩) (fun vr Z6 H6 g6 hvr => ?_)
    rw [List.map_id] at hvr
    have g46 := g5.trans g6
    have hl1 : isL (isL isN) Z6 (.ref t) [ch.2.fst] := ⟨t, [v3], rfl, g46.z _ _ ht, .cons (Mono.mono (g4.z.trans g46.z) h3) .nil⟩
    refine x_catL hl1 hvr g6.zh (by rw [List.length_drop]; simp only [List.length_singleton]; omega) fun vfo Z7 H7 g7 hfo => ?_
    have g27 := (g24.trans g46).trans g7
    have hends : (if ch.2.nul = true then [0] else ([] : List Nat)).length + ch.2.lst.length ≤ 1000000 := by
      have : (if ch.2.nul = true then [0] else ([] : List Nat)).length ≤ 1 := by split <;> simp
      omega
    -- ends
    refine k_ifE ch.2.nul (fun v Z8 H8 => Gr Z7 H7 Z8 H8 ∧ isL isN Z8 v (if ch.2.nul = true then [0] else [])) (fun R r => ⟨_, rfl, xw, _, dxw, _, _, rfl, g7.zh _ _ (g27.z _ _ hxw), T.c_Part.cl, T.n_Part_nullable, rfl, _, rfl, r⟩) (fun hb R hR => ?_) (fun hb R hR => ?_) (fun ve Z8 H8 ⟨g8, hve⟩ => ?_)
    · exact a_lst1 (t_C (x_lstZ g7.zh (by show 1 ≤ 1000; decide) fun t2 Z8 H8 g8 ht2 => hR _ Z8 H8 ⟨g8, by rw [if_pos hb]; exact isL_vN (xs := [0]) ht2⟩))
    · exact a_lst0 (x_lstZ g7.zh (by decide) fun t2 Z8 H8 g8 ht2 => hR _ Z8 H8 ⟨g8, by rw [if_neg (by rw [hb]; exact Bool.false_ne_true)]; exact isL_vN (xs := []) ht2⟩)
    have g28 := g27.trans g8
    refine ⟨_, rfl, xw, _, dxw, _, _, rfl, g8.zh _ _ (g28.z _ _ hxw), T.c_Part.cl, T.n_Part_last, rfl, x_catL hve (Mono.mono g28.z hwl) g8.zh hends fun ven Z9 H9 g9 hen => ?_⟩
    have g29 := g28.trans g9
    -- Network(list(self.marks), follow, ends)
    refine a_new3 ?_
    walk_at "nf"
    refine ⟨_, rfl, x, _, dx, _, _, rfl, g29.keepH hx2, T.c_Scanner.cl, T.n_Scanner_marks, rfl, am, _, rfl, .inl (SqL.of (g29.keepH hm2)), fun l hl => ⟨_, rfl, _, rfl, ?_⟩⟩
    have g10 : Gr Z9 H9 (upd Z9 l (.lst (st.marks.map vM))) (upd H9 l (.lst (st.marks.map vM))) := (Grow.refl g9.zh).allocZ hl
    refine x_new3 g10.zh fun xn dxn Z11 H11 g11 hxn => ?_
    have g911 := g10.trans g11
    refine kk _ Z11 H11 (gg.trans (g29.trans g911)) ⟨xn, dxn, _, _, _, rfl, hxn, ⟨l, _, rfl, g11.z _ _ upd_same, isM_vM⟩, Mono.mono ((g8.z.trans g9.z).trans g911.z) hfo, Mono.mono g911.z hen⟩
def spScd (CS CP : Addr) : Sp := fun vs H Q _ => ∃ (Z : Hp) (a z : Str) (s : Sc), vs = [.str a, .str z, .int 0, .str (Str.ofString "")] ∧ Same Z H ∧ a ∈ AL ∧ z.length ≤ 1000 ∧ scanF (cs a) Sc.start z.cps.toList = some s ∧ s.fs = [] ∧
  ∀ t x n Z' H', ScAt CS CP Z H x a s Z' H' → Z' t = some (.tup [.ref x, .int n, .non]) → Q (.ref t) H'
theorem scan_app (a : List Nat) : ∀ (u v : List Nat) (s : Sc), scanF a s (u ++ v) = (scanF a s u).bind fun s' => scanF a s' v
  | [], _, _ => rfl
  | c :: u, v, s => by
    show (if s.signs = 12 then none else (takeF a s c).bind fun s' => scanF a s' (u ++ v)) = (if s.signs = 12 then none else (takeF a s c).bind fun s' => scanF a s' u).bind fun s' => scanF a s' v
    by_cases h : s.signs = 12
    · rw [if_pos h, if_pos h]; rfl
    · rw [if_neg h, if_neg h, Option.bind_assoc]
      congr 1
      funext s'
      exact scan_app a u v s'
abbrev N_scanned : List Str := ["alphabet", "text", "start", "stops", "scanner", "at"]
theorem sc_scanned : FnScope N_scanned ["alphabet", "text", "start", "stops"] (defScope (top 27)) := ⟨rfl, rfl, rfl, by decide +kernel, rfl, by decide +kernel, by decide +kernel⟩
theorem ok_scanned (T : Txt K mg) : FnOk P w K mg base CX0 7 T.d_scanned.f T.d_scanned.fd ["alphabet", "text", "start", "stops"] (spScd T.c_Scanner.C T.c_Part.C) := by
  refine T.d_scanned.fn.ok sc_scanned (fun vs H Q E h => ?_) (fun cdv A outer s H vs Q E hr h => ?_)
  · obtain ⟨Z, a, z, s, rfl, _⟩ := h
    rfl
  · obtain ⟨Z, a, z, st, rfl, sub, ha, hz, hsc, hfs, kk⟩ := h
    refine ⟨_, pss_cons (ps_set (i := 4) sc_scanned.nd rfl (.inl rfl) (pe_make T.c_Scanner.mkc (ok_Scanner___init__ T) (hr.mono (by decide)) (by rfl) T.c_Scanner.mg T.c_Scanner.init.b .nil pass0 (pa_cons (pv 0) pa_nil)))
  (pss_cons (ps_set (i := 5) sc_scanned.nd rfl (.inl rfl) (pv 2))
  (pss_cons (ps_while PassesOwn.never (pt_cmpR op_lt (pv 5) (pe_callB call_len_str (by rfl) T.b_len (by decide +kernel) (pa_cons (pv 1) pa_nil)) (nomark _))
  (pss_cons (ps_if (PW.pt (pw_and (pt_val (pe_meth0 (pv 4) T.c_Scanner.cl T.m_Scanner_is_closed.me (ok_Scanner_is_closed T) (hr.mono (by decide)) T.m_Scanner_is_closed.b .nil pass0)) (pw_and1 (pt_cmpR op_in_sign (pe_ix ix_str (pv 1) (pv 5) (fun _ _ => rfl)) (pv 3) rfl))))
  (pss_one (ps_ret (pe_tup (pa_cons (pv 4) (pa_cons (pv 5) (pa_cons (pe_non) pa_nil))))))
  (pss_nil))
  (pss_cons (ps_if (pt_cmpR op_eq (pe_fldK K rfl (pv 4) rfl) (pe_glob (v := .int 12) (by rfl) T.k_MOST_SIGNS ⟨_, rfl⟩) (nomark _))
  (pss_one (ps_ret (pe_tup (pa_cons (pv 4) (pa_cons (pv 5) (pa_cons (pe_str) pa_nil))))))
  (pss_nil))
  (pss_cons (ps_if (pt_not (pt_val (pe_meth (pv 4) T.c_Scanner.cl T.m_Scanner_take.me (ok_Scanner_take T) (hr.mono (by decide)) T.m_Scanner_take.b .nil pass0 (pa_cons (pe_ix ix_str (pv 1) (pv 5) (fun _ _ => rfl)) pa_nil))))
  (pss_one (ps_ret (pe_tup (pa_cons (pv 4) (pa_cons (pv 5) (pa_cons (pe_str) pa_nil))))))
  (pss_nil))
  (pss_one (ps_aug (i := 5) sc_scanned.nd rfl (.inl rfl) (pe_int) ip_add))))))
  (pss_cons (ps_if (pt_not (pt_val (pe_meth0 (pv 4) T.c_Scanner.cl T.m_Scanner_is_closed.me (ok_Scanner_is_closed T) (hr.mono (by decide)) T.m_Scanner_is_closed.b .nil pass0)))
  (pss_one (ps_ret (pe_tup (pa_cons (pv 4) (pa_cons (pv 5) (pa_cons (pe_str) pa_nil))))))
  (pss_nil))
  (pss_one (ps_ret (pe_tup (pa_cons (pv 4) (pa_cons (pv 5) (pa_cons (pe_non) pa_nil))))))))), ?_⟩
    have zl : z.length = z.cps.toList.length := by simp; rfl
    walk_at "ni"
    refine a_new1 ⟨_, rfl, fun x dx hx hdx ne => ⟨Z, H, x, dx, a, rfl, rfl, sub, hx, hdx, ne, fun Z1 H1 S1 => ⟨rfl, ?_⟩⟩⟩
    walk_at "ni"
    refine ⟨_, rfl, ?_⟩
    refine ⟨fun m σ Hc => ∃ (at_ : Nat) (s1 : Sc) (Z2 : Hp), σ = [some (.str a), some (.str z), some (.int 0), some (.str (Str.ofString "")), some (.ref x), some (.int (at_ : Int))] ∧ ScAt T.c_Scanner.C T.c_Part.C Z H x a s1 Z2 Hc ∧ SOk s1 ∧ at_ ≤ z.cps.toList.length ∧ scanF (cs a) s1 (z.cps.toList.drop at_) = some st ∧ m = z.cps.toList.length - at_,
      ⟨_, 0, Sc.start, Z1, rfl, S1, SOk.start, Nat.zero_le _, hsc, rfl⟩, ?_⟩
    rintro m σ Hc ⟨at_, s1, Z2, rfl, S2, ok, hat, hrest, rfl⟩
    obtain ⟨ro, dx2, am, af, ar, R⟩ := id S2
    walk_at "ni"
    refine ⟨_, rfl, _, rfl, z, rfl, Nat.le_trans hz (by decide), ⟨_, _, rfl, rfl, _, rfl, ?_⟩⟩
    rw [zl]
    by_cases hlt : at_ < z.cps.toList.length
    · refine ifY (by rw [lt_dec]; exact decide_eq_true hlt) ⟨_, fun _ _ h => h, ?_⟩
      obtain ⟨c, hc⟩ : ∃ c, z.cps.toList[at_]? = some c := ⟨_, List.getElem?_eq_getElem hlt⟩
      have edrop : z.cps.toList.drop at_ = c :: z.cps.toList.drop (at_ + 1) := by
        rw [List.drop_eq_getElem_cons hlt]
        rw [List.getElem?_eq_getElem hlt] at hc
        rw [Option.some.inj hc]
      rw [edrop] at hrest
      unfold scanF at hrest
      have hs12 : ¬ s1.signs = 12 := fun e => by rw [if_pos e] at hrest; cases hrest
      rw [if_neg hs12] at hrest
      obtain ⟨s2, htk, hrest2⟩ := Option.bind_eq_some_iff.mp hrest
      have h12 : s1.signs < 12 := by have := ok.s12; omega
      have ok2 := (ok.take h12 htk).1
      have hsz : z.length ≤ sizeLine := Nat.le_trans hz (by decide)
      have e0 : (Str.ofString "").cps.toList = [] := by decide
      refine k_ifN (fun R' r => ⟨_, rfl, x, dx2, _, rfl, R.hx, rfl, Z, H, Z2, x, a, s1, rfl, S2, s1.fs.isEmpty, rfl, ?_⟩) ?_
      · cases s1.fs.isEmpty with
        | true => exact ifY rfl ⟨_, rfl, _, rfl, z, _, c, rfl, rfl, hsz, atI_nat hc, _, rfl, c, Str.ofString "", rfl, rfl, false, congrArg V.bl (decide_eq_false (by rw [e0]; simp)), r⟩
        | false => exact ifN rfl r
      walk_at "ni"
      refine k_ifN (fun R' r => ⟨_, rfl, x, _, dx2, _, _, rfl, R.hx, T.c_Scanner.cl, T.n_Scanner_signs, rfl, rfl, false, congrArg V.bl (decide_eq_false fun e => hs12 (by injection e with e; omega)), r⟩) ?_
      walk_at "nf"
      refine ⟨_, rfl, x, dx2, _, rfl, R.hx, rfl, _, rfl, _, rfl, z, _, c, rfl, rfl, hsz, atI_nat hc, ?_⟩
      refine ⟨Z, H, Z2, x, a, s1, s2, c, rfl, S2, ok, h12, ha, htk, fun Z3 H3 S3 s3 => ⟨true, rfl, ifN rfl ⟨_, rfl, _, _, rfl, rfl, ?_⟩⟩⟩
      exact ⟨z.cps.toList.length - (at_ + 1), by omega, at_ + 1, s2, Z3, rfl, S3, ok2, by omega, hrest2, rfl⟩
    · refine ifN (by rw [lt_dec]; exact decide_eq_false hlt) ?_
      have eat : z.cps.toList.drop at_ = [] := List.drop_eq_nil_iff.mpr (by omega)
      rw [eat] at hrest
      cases hrest
      walk_at "nf"
      refine ⟨_, rfl, x, dx2, _, rfl, R.hx, rfl, Z, H, Z2, x, a, st, rfl, S2, true, by rw [hfs]; rfl, ifN rfl ?_⟩
      refine a_tup3 ⟨_, rfl, _, rfl, t_C (x_tupZ R.gr.zh (by show 3 ≤ 1000; decide) fun t Z3 H3 g3 ht => kk t x _ Z3 H3 ⟨ro, dx2, am, af, ar, R.grow g3⟩ ht)⟩
def spPatI (CS CP CPat CN : Addr) : Sp := fun vs H Q _ => ∃ (Z : Hp) (x dx : Addr) (a z : Str) (s : Sc), vs = [.ref x, .str a, .str z] ∧ Same Z H ∧ Z x = none ∧ H x = some (.ins CPat dx []) ∧ a ∈ AL ∧ z.length ≤ 1000 ∧ scanF (cs a) Sc.start z.cps.toList = some s ∧ s.fs = [] ∧
  ∀ vn Z' H', Grow (fun y => y = x) Z H Z' H' → Z' x = none → H' x = some (.ins CPat dx [("alphabet", .str a), ("text", .str z), ("network", vn)]) → isNet CN Z' vn s.net → Q .non H'
abbrev N_Pattern___init__ : List Str := ["self", "alphabet", "text", "scanner", "place", "fault"]
theorem sc_Pattern___init__ : FnScope N_Pattern___init__ ["self", "alphabet", "text"] (defScope (inClass (top 35) 0)) := ⟨rfl, rfl, rfl, by decide +kernel, rfl, by decide +kernel, by decide +kernel⟩
theorem ok_Pattern___init__ (T : Txt K mg) : FnOk P w K mg base CX0 8 T.c_Pattern.init.f T.c_Pattern.init.fd ["self", "alphabet", "text"] (spPatI T.c_Scanner.C T.c_Part.C T.c_Pattern.C T.c_Network.C) := by
  refine T.c_Pattern.init.fn.ok sc_Pattern___init__ (fun vs H Q E h => ?_) (fun cdv A outer s H vs Q E hr h => ?_)
  · obtain ⟨Z, x, dx, a, z, s, rfl, _⟩ := h
    rfl
  · obtain ⟨Z, x, dx, a, z, st, rfl, sub, zx, hx, ha, hz, hsc, hfs, kk⟩ := h
    refine ⟨_, pss_cons (ps_asg (pe_call (ok_scanned T) (hr.mono (by decide)) (by rfl) T.d_scanned.mg T.d_scanned.fn.kp T.d_scanned.b .nil pass0 (pa_cons (pv 1) (pa_cons (pv 2) (pa_cons (pe_int) (pa_cons (pe_str) pa_nil))))) (pg_tupK (n := 3) K rfl rfl (pgs_cons (pg_name (i := 3) sc_Pattern___init__.nd rfl (.inl rfl) (.inl rfl)) (pgs_cons (pg_name (i := 4) sc_Pattern___init__.nd rfl (.inl rfl) (.inl rfl)) (pgs_cons (pg_name (i := 5) sc_Pattern___init__.nd rfl (.inl rfl) (.inl rfl)) pgs_nil)))))
  (pss_cons (ps_if (pt_cmpR op_notN (pv 5) pe_non (nomark _))
  (pss_one (ps_never))
  (pss_nil))
  (pss_cons (ps_fld (pv 0) (pv 1) rfl)
  (pss_cons (ps_fld (pv 0) (pv 2) rfl)
  (pss_one (ps_fld (pv 0) (pe_meth0 (pv 3) T.c_Scanner.cl T.m_Scanner_network.me (ok_Scanner_network T) (hr.mono (by decide)) T.m_Scanner_network.b .nil pass0) rfl))))), ?_⟩
    have ok := SOk.start.scan hsc
    walk_at "nf"
    refine ⟨_, rfl, _, rfl, Z, a, z, st, rfl, sub, ha, hz, hsc, hfs, fun t xs n Z1 H1 S1 ht => ?_⟩
    obtain ⟨ro, dxs, am, af, ar, R⟩ := id S1
    have nx : xs ≠ x := fun e => by
      have := (R.own _ _ R.rx).1
      rw [e, hx] at this; cases this
    have hx1 := R.gr.keepH hx
    refine ⟨t, _, rfl, SqT.of (R.gr.zh _ _ ht), rfl, _, _, rfl, _, _, rfl, _, _, rfl, rfl, ?_⟩
    walk_at "nf"
    refine ⟨_, rfl, rfl, _, rfl, ifN rfl ?_⟩
    refine ⟨_, rfl, _, rfl, x, _, dx, [], rfl, hx1, T.c_Pattern.cl, T.n_Pattern_alphabet, (by show 0 < 1000; decide), ?_⟩
    refine ⟨_, rfl, _, rfl, x, _, dx, _, rfl, upd_same, T.c_Pattern.cl, T.n_Pattern_text, (by show 1 < 1000; decide), ?_⟩
    rw [upd_upd]
    have S2 : ScAt T.c_Scanner.C T.c_Part.C Z (upd H x (.ins T.c_Pattern.C dx [("alphabet", .str a), ("text", .str z)])) xs a st Z1 (upd H1 x (.ins T.c_Pattern.C dx [("alphabet", .str a), ("text", .str z)])) := S1.rebase hx zx
    refine ⟨_, rfl, xs, dxs, _, rfl, by rw [upd_ne nx]; exact R.hx, rfl, Z, _, Z1, xs, a, st, rfl, S2, ok, hfs, fun vn Z2 H2 g2 hn => ?_⟩
    have zx2 : Z2 x = none := g2.keepZ zx upd_same
    refine ⟨_, rfl, x, _, dx, _, rfl, g2.keepH upd_same, T.c_Pattern.cl, T.n_Pattern_network, (by show 2 < 1000; decide), ?_⟩
    exact kk vn Z2 _ ((g2.on hx).mut (.inr rfl) zx2 (g2.keepH upd_same)) zx2 upd_same hn
theorem x_newP {CS CP CPat CN : Addr} {Z H : Hp} {E : XK} {Q : VK} {a z : Str} {s : Sc} (sub : Same Z H) (ha : a ∈ AL) (hz : z.length ≤ 1000) (hsc : scanF (cs a) Sc.start z.cps.toList = some s) (hfs : s.fs = [])
    (k : ∀ v Z' H', Gr Z H Z' H' → isPat CPat CN a Z' v s.net → Q v H') : NewK CPat (spPatI CS CP CPat CN) E [.str a, .str z] H Q := fun x dx hx hdx ne => by
  have hx' : (upd H dx (.own x)) x = none := by rw [upd_ne ne.symm]; exact hx
  have g0 : Gr Z H Z (upd (upd H dx (.own x)) x (.ins CPat dx [])) := ((Grow.refl sub).alloc hdx).alloc hx'
  refine ⟨Z, x, dx, a, z, s, rfl, g0.zh, sub.free hx, upd_same, ha, hz, hsc, hfs, fun vn Z' H' g zx hx1 hn => ⟨rfl, ?_⟩⟩
  have g1 : Gr Z H Z' H' := Grow.fresh g0 g fun y e => e ▸ hx
  have g2 := g1.freeze hx zx hx1
  exact k _ _ _ g2 ⟨x, dx, _, vn, rfl, upd_same, Mono.mono (same_upd zx) hn⟩
end
end K87

set_option autoImplicit true
set_option Elab.async false
set_option linter.all false
set_option maxRecDepth 100000
set_option maxHeartbeats 4000000
set_option pp.deepTerms.threshold 6
/-! K87D24: _law_cell, _law_row, _law_draw. -/
namespace K87
open PySem L2 PySem.Spec PyProof.Rows
theorem isL_I {Z : Hp} {v : V} {xs : List Int} : isL isI Z v xs ↔ ∃ a, v = .ref a ∧ Z a = some (.lst (xs.map V.int)) :=
  ⟨fun ⟨a, vs, e, h, r⟩ => ⟨a, e, by rw [h, pr_fn (f := V.int) r]⟩, fun ⟨a, e, h⟩ => ⟨a, _, e, h, pr_of⟩⟩
section
local macro_rules | `(tactic| walk_at "nf") => `(tactic| try dsimp only [tSeq, tAsg, gName, tRet, tRetN, tDrop, tNext, tIfS, tTest, tB, tOp, tUn, tNil, tCons, tCB, tC, tAnd, tOr, tNot, tAndV, tOrV, tNotV, sDPut, sFld, sFldAug, tM0, tM1, tBM, tBM0, tMeth, tCall, sGPut, tGGet, tGNin, tDGet, tDNotIn, tDIn, tFld, tChain])
local macro_rules | `(tactic| walk_at "st") => `(tactic| try dsimp only [wipe, List.set_cons_zero, List.set_cons_succ])
local macro_rules | `(tactic| walk_at "ni") => `(tactic| try dsimp only [tSeq, tAsg, gName, tRet, tRetN, tDrop, tNext, tTest, tB, tOp, tUn, tNil, tCons, tCB, tC, tAnd, tOr, tNot, tAndV, tOrV, tNotV, sDPut, sFld, sFldAug, tM0, tM1, tBM, tBM0, tMeth, tCall, sGPut, tGGet, tGNin, tDGet, tDNotIn, tDIn, tFld, tChain])
variable {P : Program} {w : World} {K : PySem.W.Frag} {mg : Str → Option Value} {base : Heap}
def spCellA (K : PySem.W.Frag) : Sp := fun vs H Q _ => ∃ (l : Addr) (ns : List Int) (k : Nat), vs = [.ref l, .int (k : Int)] ∧ SqL K H l (ns.map V.int) ∧ ∀ c : Int, Q (.int c) H
abbrev N__law_cell : List Str := ["_law_script", "_law_k"]
theorem sc__law_cell : FnScope N__law_cell ["_law_script", "_law_k"] (defScope (top 53)) := ⟨rfl, rfl, rfl, by decide +kernel, rfl, by decide +kernel, by decide +kernel⟩
theorem ok__law_cell (T : Txt K mg) : FnOk P w K mg base CX0 1 T.d__law_cell.f T.d__law_cell.fd ["_law_script", "_law_k"] (spCellA K) := by
  refine T.d__law_cell.fn.ok sc__law_cell (fun vs H Q E h => ?_) (fun cdv A outer s H vs Q E hr h => ?_)
  · obtain ⟨l, ns, k, rfl, _⟩ := h
    rfl
  · obtain ⟨l, ns, k, rfl, hS, kk⟩ := h
    refine ⟨_, pss_cons (ps_if (pt_cmpR op_lt (pv 1) (pe_callB (call_len_seqK K rfl) (by rfl) T.b_len (by decide +kernel) (pa_cons (pv 0) pa_nil)) (nomark _))
  (pss_one (ps_ret (pe_ix (ix_listK K rfl) (pv 0) (pv 1) (fun _ _ => rfl))))
  (pss_nil))
  (pss_one (ps_ret (pe_int))), ?_⟩
    walk_at "nf"
    refine ⟨_, rfl, _, rfl, ⟨l, ns.map V.int, rfl, .inl hS, ⟨_, _, rfl, rfl, _, rfl, ?_⟩⟩⟩
    by_cases h : k < (ns.map V.int).length
    · refine ifY (by rw [lt_dec]; exact decide_eq_true h) ?_
      rw [List.length_map] at h
      refine ⟨_, rfl, _, rfl, l, ns.map V.int, _, V.int ns[k], rfl, rfl, hS, atI_nat (by rw [List.getElem?_map, List.getElem?_eq_getElem h]; rfl), kk _⟩
    · exact ifN (by rw [lt_dec]; exact decide_eq_false h) (kk 0)
def spRowA (K : PySem.W.Frag) : Sp := fun vs H Q _ => ∃ (Z : Hp) (l : Addr) (ns : List Int), vs = [.ref l, .int 0, .int 40] ∧ Same Z H ∧ SqL K H l (ns.map V.int) ∧
  ∀ v Z' H' (us : List Int), Gr Z H Z' H' → isL isI Z' v us → Q v H'
abbrev N__law_row : List Str := ["_law_script", "_law_first", "_law_last", "_law_row_here", "_law_k", "_law_cell_here", "_law_turn"]
theorem sc__law_row : FnScope N__law_row ["_law_script", "_law_first", "_law_last"] (defScope (top 54)) := ⟨rfl, rfl, rfl, by decide +kernel, rfl, by decide +kernel, by decide +kernel⟩
theorem ok__law_row (T : Txt K mg) : FnOk P w K mg base CX0 2 T.d__law_row.f T.d__law_row.fd ["_law_script", "_law_first", "_law_last"] (spRowA K) := by
  refine T.d__law_row.fn.ok sc__law_row (fun vs H Q E h => ?_) (fun cdv A outer s H vs Q E hr h => ?_)
  · obtain ⟨Z, l, ns, rfl, _⟩ := h
    rfl
  · obtain ⟨Z, l, ns, rfl, sub, hS, kk⟩ := h
    refine ⟨_, pss_cons (ps_set (i := 3) sc__law_row.nd rfl (.inl rfl) (pe_lst pa_nil))
  (pss_cons (ps_for PassesOwn.never rfl (pi_range2 (by rfl) T.b_range (pa_cons (pv 1) (pa_cons (pv 2) pa_nil))) (pg_name (i := 4) sc__law_row.nd rfl (.inl rfl) (.inl rfl))
  (pss_cons (ps_set (i := 5) sc__law_row.nd rfl (.inl rfl) (pe_call (ok__law_cell T) (hr.mono (by decide)) (by rfl) T.d__law_cell.mg T.d__law_cell.fn.kp T.d__law_cell.b .nil pass0 (pa_cons (pv 0) (pa_cons (pv 4) pa_nil))))
  (pss_cons (ps_set (i := 5) sc__law_row.nd rfl (.inl rfl) (pe_op op_add (pe_callB call_abs (by rfl) T.b_abs (by decide +kernel) (pa_cons (pe_op op_mul (pe_int) (pv 5)) pa_nil)) (pe_callTy call_int1 (by rfl) T.b_int (by decide +kernel) (pa_cons (pe_cmpR op_lt (pv 5) (pe_int) (nomark _)) pa_nil))))
  (pss_one (ps_if (pt_cmpR op_gt (pv 5) (pe_op op_pow (pe_int) (pe_int)) (nomark _))
  (pss_one (ps_for PassesOwn.never rfl (pi_range1 (by rfl) T.b_range (pa_cons (pe_int) pa_nil)) (pg_name (i := 6) sc__law_row.nd rfl (.inl rfl) (.inl rfl))
  (pss_one (ps_if (pt_cmpR op_gt (pv 5) (pe_int) (nomark _))
  (pss_cons (ps_expr (pe_bmK K rfl PySem.F.plainAttrs_list PySem.F.slot_list_append PySem.F.type_list_append mt_append (pv 3) (pa_cons (pe_op op_mod (pe_callTy call_int1 (by rfl) T.b_int (by decide +kernel) (pa_cons (pv 5) pa_nil)) (pe_int)) pa_nil)))
  (pss_one (ps_set (i := 5) sc__law_row.nd rfl (.inl rfl) (pe_op op_fdivW (pv 5) (pe_int)))))
  (pss_nil)))))
  (pss_one (ps_for PassesOwn.never rfl (pi_range1 (by rfl) T.b_range (pa_cons (pe_int) pa_nil)) (pg_name (i := 6) sc__law_row.nd rfl (.inl rfl) (.inl rfl))
  (pss_cons (ps_set (i := 5) sc__law_row.nd rfl (.inl rfl) (pe_op op_mod (pe_callTy call_int1 (by rfl) T.b_int (by decide +kernel) (pa_cons (pe_op op_add (pe_op op_add (pe_op op_mul (pv 5) (pe_int)) (pe_op op_mul (pe_int) (pe_op op_add (pv 4) (pv 6)))) (pe_int)) pa_nil)) (pe_int)))
  (pss_one (ps_expr (pe_bmK K rfl PySem.F.plainAttrs_list PySem.F.slot_list_append PySem.F.type_list_append mt_append (pv 3) (pa_cons (pe_op op_mod (pe_callTy call_int1 (by rfl) T.b_int (by decide +kernel) (pa_cons (pe_op op_fdivW (pv 5) (pe_int)) pa_nil)) (pe_int)) pa_nil))))))))))))
  (pss_one (ps_ret (pv 3)))), ?_⟩
    walk_at "nf"
    refine a_lst0 (x_lstN (by decide) fun rd hrd => ?_)
    have zr := sub.free hrd
    have g0 : Gr Z H Z (upd H rd (.lst [])) := (Grow.refl sub).alloc hrd
    -- one number more
    have more : ∀ {Hc : Hp} {us : List Int} (z : Int), Gr Z H Z Hc → Hc rd = some (.lst (us.map V.int)) → Gr Z H Z (upd Hc rd (.lst (us.map V.int ++ [V.int z]))) ∧ (upd Hc rd (.lst (us.map V.int ++ [V.int z]))) rd = some (.lst ((us ++ [z]).map V.int)) := fun z g h =>
      ⟨g.mut (.inl hrd) zr h, by rw [upd_same, List.map_append]; rfl⟩
    have hS0 : ∀ {Hc : Hp}, Gr Z H Z Hc → SqL K Hc l (ns.map V.int) := fun g => g.same.seq hS
    refine ⟨_, rfl, _, rfl, 0, 40, rfl, ⟨by decide, by decide, by decide, by decide⟩, ?_⟩
    refine for_it (walk_range (lo := 0) (n := 40)) (fun i σ Hc => ∃ us e4 e5 e6, σ = [some (.ref l), some (.int 0), some (.int 40), some (.ref rd), e4, e5, e6] ∧ Gr Z H Z Hc ∧ Hc rd = some (.lst (us.map V.int)) ∧ us.length ≤ 60 * i) ⟨[], none, none, none, rfl, g0, upd_same, by simp⟩ (fun _ _ _ _ _ => True.intro) (fun i x σ Hc H2 hi h hy => ?_) (fun σ Hc h => ?_)
    · obtain ⟨us, e4, e5, e6, rfl, g, hl, hle⟩ := h
      obtain ⟨rfl, rfl⟩ := (show H2 = Hc ∧ x = .int (0 + (i : Int)) from hy)
      rw [Int.zero_add]
      walk_at "nf"
      refine ⟨_, rfl, _, rfl, l, ns, i, rfl, hS0 g, fun c => ?_⟩
      refine ⟨_, rfl, 2, c, rfl, rfl, .inl ⟨by decide, by decide⟩, _, rfl, _, rfl, _, _, rfl, rfl, .inr ⟨_, rfl, _, _, rfl, rfl, ?_⟩⟩
      walk_at "nf"
      generalize (if 2 * c < 0 then -(2 * c) else 2 * c) + (if decide (c < 0) = true then 1 else 0) = z
      refine ⟨_, rfl, _, _, rfl, rfl, ⟨by decide, by decide, by decide⟩, _, _, rfl, rfl, _, rfl, ?_⟩
      by_cases hz : (10 : Int) ^ (18 : Int).toNat < z
      · refine ifY (decide_eq_true hz) ?_
        -- a large cell
        refine f_range (t_C ?_)
        refine k_forR (n := (60 : Int)) rfl (by decide) (by decide) (fun j σ Hc => ∃ us z e6, σ = [some (.ref l), some (.int 0), some (.int 40), some (.ref rd), some (.int (i : Int)), some (.int z), e6] ∧ Gr Z H Z Hc ∧ Hc rd = some (.lst (us.map V.int)) ∧ us.length ≤ 60 * i + j) ⟨us, z, _, rfl, g, hl, hle⟩ ?_ ?_
        · rintro j σ Hc hj ⟨us, z, e6, rfl, g, hl, hle⟩
          walk_at "nf"
          refine ⟨_, rfl, _, _, rfl, rfl, _, rfl, ?_⟩
          by_cases h0 : (0 : Int) < z
          · refine ifY (decide_eq_true h0) ?_
            obtain ⟨g2, h2⟩ := more (z % 840) g hl
            refine ⟨_, rfl, .inl ⟨rfl, _, SqL.of hl⟩, _, rfl, .inl ⟨_, rfl, _, _, rfl, rfl, (by show (0 : Int) < 840; decide), rd, _, _, rfl, rfl, hl, sz6' (by rw [List.length_map]; omega), ?_⟩⟩
            refine ⟨_, rfl, _, _, rfl, rfl, ⟨by decide, by decide⟩, ?_⟩
            exact ⟨us ++ [z % 840], _, _, rfl, g2, h2, by rw [List.length_append]; show us.length + 1 ≤ _; omega⟩
          · exact ifN (decide_eq_false h0) ⟨us, z, _, rfl, g, hl, by omega⟩
        · rintro σ Hc ⟨us, z, e6, rfl, g, hl, hle⟩
          exact ⟨us, _, _, _, rfl, g, hl, by have : ((60 : Int)).toNat = 60 := rfl
                                             omega⟩
      · refine ifN (decide_eq_false hz) ?_
        refine f_range (t_C ?_)
        refine k_forR (n := (10 : Int)) rfl (by decide) (by decide) (fun j σ Hc => ∃ us z e6, σ = [some (.ref l), some (.int 0), some (.int 40), some (.ref rd), some (.int (i : Int)), some (.int z), e6] ∧ Gr Z H Z Hc ∧ Hc rd = some (.lst (us.map V.int)) ∧ us.length ≤ 60 * i + j) ⟨us, z, _, rfl, g, hl, hle⟩ ?_ ?_
        · rintro j σ Hc hj ⟨us, z, e6, rfl, g, hl, hle⟩
          walk_at "nf"
          refine ⟨_, rfl, z, 69069, rfl, rfl, .inr ⟨by decide, by decide⟩, _, rfl, _, rfl, _, _, rfl, rfl, _, _, rfl, rfl, .inl ⟨by decide, by decide⟩, _, _, rfl, rfl, _, _, rfl, rfl, .inl ⟨_, rfl, _, _, rfl, rfl, (by show (0 : Int) < 4294967291; decide), ?_⟩⟩
          refine ⟨_, rfl, .inl ⟨rfl, _, SqL.of hl⟩, _, rfl, _, _, rfl, rfl, ⟨by decide, by decide⟩, .inl ⟨_, rfl, _, _, rfl, rfl, (by show (0 : Int) < 840; decide), rd, _, _, rfl, rfl, hl, sz6' (by rw [List.length_map]; omega), ?_⟩⟩
          obtain ⟨g2, h2⟩ := more (((z * 69069 + 104729 * ((i : Int) + (j : Int)) + 1) % 4294967291) / 5003 % 840) g hl
          exact ⟨us ++ [_], _, _, rfl, g2, h2, by rw [List.length_append]; show us.length + 1 ≤ _; omega⟩
        · rintro σ Hc ⟨us, z, e6, rfl, g, hl, hle⟩
          exact ⟨us, _, _, _, rfl, g, hl, by have : ((10 : Int)).toNat = 10 := rfl
                                             omega⟩
    · obtain ⟨us, e4, e5, e6, rfl, g, hl, hle⟩ := h
      walk_at "nf"
      exact ⟨_, rfl, kk _ _ Hc us (g.freeze hrd zr hl) (isL_I.mpr ⟨rd, rfl, upd_same⟩)⟩
/-- the law's box: what it draws from, and where it is -/
def BoxI (vr : V) (box : Addr) (H : Hp) : Prop := ∃ at_ : Nat, H box = some (.lst [vr, .int (at_ : Int)])
abbrev On (box : Addr) : Addr → Prop := fun y => y = box
structure Box (Z : Hp) (vr : V) (box : Addr) (H : Hp) : Prop where
  z : Z box = none
  at_ : BoxI vr box H
  nums : ∃ ns, isL isI Z vr ns
theorem Box.go {Z Z' H H' : Hp} {vr : V} {box : Addr} (b : Box Z vr box H) (g : Grow (On box) Z H Z' H') (h : BoxI vr box H') : Box Z' vr box H' := by
  obtain ⟨ns, hn⟩ := b.nums
  obtain ⟨a, ha⟩ := b.at_
  exact ⟨g.keepZ b.z ha, h, ns, Mono.mono g.z hn⟩
theorem Box.gr {Z Z' H H' : Hp} {vr : V} {box : Addr} (b : Box Z vr box H) (g : Gr Z H Z' H') : Box Z' vr box H' := by
  obtain ⟨a, ha⟩ := b.at_
  exact b.go (Gr.to g) ⟨a, g.keepH ha⟩
theorem BoxI.side {vr : V} {box : Addr} : Side (On box) (BoxI vr box) := ⟨fun H p o n ⟨a, h⟩ => ⟨a, by rw [upd_ne (fun e => n e.symm)]; exact h⟩⟩
theorem Box.has {Z H : Hp} {vr : V} {box : Addr} (b : Box Z vr box H) : ∀ a, On box a → ∃ o, H a = some o := fun a e => by
  obtain ⟨n, h⟩ := b.at_
  exact ⟨_, e ▸ h⟩
def spDraw : Sp := fun vs H Q _ => ∃ (Z : Hp) (box : Addr) (vr : V) (many : Nat), vs = [.ref box, .int (many : Int)] ∧ Same Z H ∧ Box Z vr box H ∧ 0 < many ∧
  ∀ (d : Nat) H', d < many → Grow (On box) Z H Z H' → BoxI vr box H' → Q (.int (d : Int)) H'
abbrev N__law_draw : List Str := ["_law_box", "_law_many", "_law_at"]
theorem sc__law_draw : FnScope N__law_draw ["_law_box", "_law_many"] (defScope (top 55)) := ⟨rfl, rfl, rfl, by decide +kernel, rfl, by decide +kernel, by decide +kernel⟩
theorem ok__law_draw (T : Txt K mg) : FnOk P w K mg base CX0 1 T.d__law_draw.f T.d__law_draw.fd ["_law_box", "_law_many"] spDraw := by
  refine T.d__law_draw.fn.ok sc__law_draw (fun vs H Q E h => ?_) (fun cdv A outer s H vs Q E hr h => ?_)
  · obtain ⟨Z, box, vr, many, rfl, _⟩ := h
    rfl
  · obtain ⟨Z, box, vr, many, rfl, sub, ⟨zb, ⟨at_, hb⟩, us, hus⟩, hm, kk⟩ := h
    refine ⟨_, pss_cons (ps_set (i := 2) sc__law_draw.nd rfl (.inl rfl) (pe_ix (ix_listK K rfl) (pv 0) (pe_int) (fun _ _ => rfl)))
  (pss_cons (ps_asg (pe_op op_add (pv 2) (pe_int)) (pg_sub (pv 0) (pe_int) set_list))
  (pss_cons (ps_if (pt_cmpR op_lt (pv 2) (pe_callB (call_len_seqK K rfl) (by rfl) T.b_len (by decide +kernel) (pa_cons (pe_ix (ix_listK K rfl) (pv 0) (pe_int) (fun _ _ => rfl)) pa_nil)) (nomark _))
  (pss_one (ps_ret (pe_op op_mod (pe_callTy call_int1 (by rfl) T.b_int (by decide +kernel) (pa_cons (pe_ix (ix_listK K rfl) (pe_ix (ix_listK K rfl) (pv 0) (pe_int) (fun _ _ => rfl)) (pv 2) (fun _ _ => rfl)) pa_nil)) (pv 1))))
  (pss_nil))
  (pss_one (ps_ret (pe_op op_mod (pe_callTy call_int1 (by rfl) T.b_int (by decide +kernel) (pa_cons (pe_op op_add (pe_op op_mul (pv 2) (pe_int)) (pe_int)) pa_nil)) (pv 1)))))), ?_⟩
    have fin : ∀ z : Int, Q (.int (z % (many : Int))) (upd H box (.lst [vr, .int ((at_ + 1 : Nat) : Int)])) := fun z => by
      have h1 : 0 ≤ z % (many : Int) := Int.emod_nonneg z (by omega)
      have h2 : z % (many : Int) < (many : Int) := Int.emod_lt_of_pos z (by omega)
      have e : z % (many : Int) = (((z % (many : Int)).toNat : Nat) : Int) := (Int.toNat_of_nonneg h1).symm
      rw [e]
      exact kk _ _ (by omega) ((Grow.refl sub).mut (.inr rfl) zb hb) ⟨at_ + 1, upd_same⟩
    obtain ⟨ar, rfl, har⟩ := isL_I.mp hus
    have nb : ar ≠ box := ne_of_none (H := Z) har zb
    walk_at "nf"
    refine ⟨_, rfl, box, _, 1, .int (at_ : Int), rfl, rfl, SqL.of hb, atI_nat (j := 1) rfl, _, rfl, _, _, rfl, rfl, _, rfl, box, _, 1, 1, rfl, rfl, hb, rfl, ?_⟩
    have ha2 : (upd H box (.lst [.ref ar, .int ((at_ + 1 : Nat) : Int)])) ar = some (.lst (us.map V.int)) := by rw [upd_ne nb]; exact sub _ _ har
    refine ⟨_, rfl, _, rfl, ⟨box, _, 0, _, rfl, rfl, SqL.of upd_same, atI_nat (j := 0) rfl, ⟨ar, _, rfl, .inl (SqL.of ha2), ⟨_, _, rfl, rfl, _, rfl, ?_⟩⟩⟩⟩
    rw [List.length_map]
    by_cases h : at_ < us.length
    · refine ifY (by rw [lt_dec]; exact decide_eq_true h) ?_
      refine ⟨_, rfl, box, _, 0, _, rfl, rfl, SqL.of upd_same, atI_nat (j := 0) rfl, _, rfl, ar, _, _, V.int us[at_], rfl, rfl, SqL.of ha2, atI_nat (by rw [List.getElem?_map, List.getElem?_eq_getElem h]; rfl), .inl ⟨_, rfl, _, rfl, _, _, rfl, rfl, by omega, fin _⟩⟩
    · refine ifN (by rw [lt_dec]; exact decide_eq_false h) ?_
      refine ⟨_, rfl, _, 5, rfl, rfl, .inr ⟨by decide, by decide⟩, _, _, rfl, rfl, .inl ⟨_, rfl, _, rfl, _, _, rfl, rfl, by omega, fin _⟩⟩
end
end K87

set_option autoImplicit true
set_option Elab.async false
set_option linter.all false
set_option maxRecDepth 100000
set_option maxHeartbeats 4000000
set_option pp.deepTerms.threshold 6
/-! K87D25: _law_states, _law_alphabet, _law_machine, _law_made. -/
namespace K87
open PySem L2 PySem.Spec PyProof.Rows
section
local macro_rules | `(tactic| walk_at "nf") => `(tactic| try dsimp only [tSeq, tAsg, gName, tRet, tRetN, tDrop, tNext, tIfS, tTest, tB, tOp, tUn, tNil, tCons, tCB, tC, tAnd, tOr, tNot, tAndV, tOrV, tNotV, sDPut, sFld, sFldAug, tM0, tM1, tBM, tBM0, tMeth, tCall, sGPut, tGGet, tGNin, tDGet, tDNotIn, tDIn, tFld, tChain])
local macro_rules | `(tactic| walk_at "st") => `(tactic| try dsimp only [wipe, List.set_cons_zero, List.set_cons_succ])
local macro_rules | `(tactic| walk_at "ni") => `(tactic| try dsimp only [tSeq, tAsg, gName, tRet, tRetN, tDrop, tNext, tTest, tB, tOp, tUn, tNil, tCons, tCB, tC, tAnd, tOr, tNot, tAndV, tOrV, tNotV, sDPut, sFld, sFldAug, tM0, tM1, tBM, tBM0, tMeth, tCall, sGPut, tGGet, tGNin, tDGet, tDNotIn, tDIn, tFld, tChain])
variable {P : Program} {w : World} {K : PySem.W.Frag} {mg : Str → Option Value} {base : Heap}
theorem Grow.z' {M : Addr → Prop} {Z H Z' H' : Hp} (g : Grow M Z H Z' H') : Same Z Z' := g.z
theorem On.keep {box l : Addr} {Z H Z' H' : Hp} {o u : HO} (g : Grow (On box) Z H Z' H') (hb : H box = some u) (hl : H l = some o) (ne : l ≠ box) : H' l = some o := g.h l o ne hl
def spStates : Sp := fun vs H Q _ => ∃ (Z : Hp) (box : Addr) (vr : V) (many : Nat), vs = [.ref box, .int (many : Int), .int ((2 : Nat) : Int)] ∧ Same Z H ∧ Box Z vr box H ∧ 0 < many ∧ many ≤ 1000 ∧
  ∀ v Z' H' rows, Grow (On box) Z H Z' H' → BoxI vr box H' → isL (isL isN) Z' v rows → rows.length = many → (∀ row ∈ rows, row.length = 2 ∧ ∀ s ∈ row, s < many) → Q v H'
abbrev N__law_states : List Str := ["_law_box", "_law_many", "_law_letters", "_law_out", "_law_i", "_law_k"]
theorem sc__law_states : FnScope N__law_states ["_law_box", "_law_many", "_law_letters"] (defScope (top 56)) := ⟨rfl, rfl, rfl, by decide +kernel, rfl, by decide +kernel, by decide +kernel⟩
theorem ok__law_states (T : Txt K mg) : FnOk P w K mg base CX0 2 T.d__law_states.f T.d__law_states.fd ["_law_box", "_law_many", "_law_letters"] spStates := by
  refine T.d__law_states.fn.ok sc__law_states (fun vs H Q E h => ?_) (fun cdv A outer s H vs Q E hr h => ?_)
  · obtain ⟨Z, box, vr, many, rfl, _⟩ := h
    rfl
  · obtain ⟨Z, box, vr, many, rfl, sub, B, hm, hm2, kk⟩ := h
    refine ⟨_, pss_cons (ps_set (i := 3) sc__law_states.nd rfl (.inl rfl) (pe_lst pa_nil))
  (pss_cons (ps_for PassesOwn.never rfl (pi_range1 (by rfl) T.b_range (pa_cons (pv 1) pa_nil)) (pg_name (i := 4) sc__law_states.nd rfl (.inl rfl) (.inl rfl))
  (pss_one (ps_expr (pe_bmK K rfl PySem.F.plainAttrs_list PySem.F.slot_list_append PySem.F.type_list_append mt_append (pv 3) (pa_cons (pe_lc (own := [("_law_k", 5)]) rfl sc__law_states.nd (pi_range1 (by rfl) T.b_range (pa_cons (pv 2) pa_nil)) (blkOk_by (N := N__law_states) (sc := defScope (top 56)) (by decide +kernel)) (fun _ _ _ _ _ => pg_name (i := 5) sc__law_states.nd rfl (.inl rfl) (.inr rfl)) (fun _ _ _ _ _ => pts_nil) (fun _ _ _ _ _ => pe_call (ok__law_draw T) (hr.mono (by decide)) (by rfl) T.d__law_draw.mg T.d__law_draw.fn.kp T.d__law_draw.b .nil pass0 (pa_cons (pv 0) (pa_cons (pv 1) pa_nil)))) pa_nil)))))
  (pss_one (ps_ret (pv 3)))), ?_⟩
    obtain ⟨at0, hb⟩ := B.at_
    walk_at "nf"
    refine a_lst0 (x_lstN (by decide) fun rd hrd => ?_)
    have zr := sub.free hrd
    have nbr : rd ≠ box := (ne_of_none hb hrd).symm
    have g0 : Grow (On box) Z H Z (upd H rd (.lst [])) := (Grow.refl sub).alloc hrd
    refine f_range ⟨_, rfl, k_forR (n := (many : Int)) rfl (by omega) (by omega) (fun i σ Hc => ∃ Z1 ws rows e4 e5, σ = [some (.ref box), some (.int (many : Int)), some (.int ((2 : Nat) : Int)), some (.ref rd), e4, e5] ∧ Grow (On box) Z H Z1 Hc ∧ BoxI vr box Hc ∧ Z1 rd = none ∧ Hc rd = some (.lst ws) ∧ Paired (isL isN Z1) ws rows ∧ rows.length = i ∧ ∀ row ∈ rows, row.length = 2 ∧ ∀ s ∈ row, s < many)
      ⟨Z, [], [], none, none, rfl, g0, ⟨at0, by rw [upd_ne nbr.symm]; exact hb⟩, zr, upd_same, .nil, rfl, by simp⟩ ?_ ?_⟩
    · rintro i σ Hc hi ⟨Z1, ws, rows, e4, e5, rfl, g, bi, zr1, hl, pr, hlen, hall⟩
      have B1 := B.go g bi
      walk_at "nf"
      refine ⟨_, rfl, .inl ⟨rfl, _, SqL.of hl⟩, c_range ⟨_, rfl, ?_⟩⟩
      refine k_compR (n := ((2 : Nat) : Int)) (M := On box) (I := BoxI vr box) (q := isN) (fun i ys => ys.length = i ∧ ∀ y ∈ ys, y < many) rfl g.zh (by decide) (by decide) (by decide) B1.has BoxI.side bi ⟨rfl, by simp⟩ (fun j Z2 H2 ys R R0 hj g2 bi2 ⟨q1, q2⟩ hR _ => ?_) (fun v Z2 H2 ys g2 bi2 hv ⟨q1, q2⟩ => ?_)
      · refine a_yes (ifY rfl ⟨_, rfl, _, rfl, Z2, box, vr, many, rfl, g2.zh, B1.go g2 bi2, hm, fun d H3 hd g3 bi3 => ?_⟩)
        refine hR _ d Z2 H3 g3 bi3 rfl ⟨by rw [List.length_append, q1]; rfl, fun y hy => ?_⟩
        rcases List.mem_append.mp hy with hy | hy
        · exact q2 y hy
        · rw [List.mem_singleton.mp hy]; exact hd
      · have hl2 := g2.h rd _ nbr hl
        have zr2 := g2.keepZ zr1 hl
        refine ⟨rd, ws, _, rfl, rfl, hl2, sz6' (by rw [Paired.length pr]; omega), ?_⟩
        obtain ⟨a2, hb2⟩ := bi2
        refine ⟨Z2, ws ++ [v], rows ++ [ys], _, _, rfl, (g.trans g2).mut (.inl hrd) zr2 hl2, ⟨a2, by rw [upd_ne nbr.symm]; exact hb2⟩, zr2, upd_same, Paired.snoc (Paired.mapP pr fun _ _ r => Mono.mono g2.z r) hv, by rw [List.length_append, hlen]; rfl, fun row hrow => ?_⟩
        rcases List.mem_append.mp hrow with hrow | hrow
        · exact hall row hrow
        · rw [List.mem_singleton.mp hrow]; exact ⟨q1, q2⟩
    · rintro σ Hc ⟨Z1, ws, rows, e4, e5, rfl, g, bi, zr1, hl, pr, hlen, hall⟩
      walk_at "nf"
      refine ⟨_, rfl, kk _ _ Hc rows (g.freeze hrd zr1 hl) bi ⟨rd, ws, rfl, upd_same, Paired.mapP pr fun _ _ r => Mono.mono (same_upd zr1) r⟩ hlen hall⟩
def spAlph : Sp := fun vs H Q _ => ∃ (Z : Hp) (box : Addr) (vr : V), vs = [.ref box, .int ((2 : Nat) : Int)] ∧ Same Z H ∧ Box Z vr box H ∧
  ∀ (a : Str) H', a ∈ AL → Grow (On box) Z H Z H' → BoxI vr box H' → Q (.str a) H'
abbrev N__law_alphabet : List Str := ["_law_box", "_law_many", "_law_letters", "_law_at"]
theorem sc__law_alphabet : FnScope N__law_alphabet ["_law_box", "_law_many"] (defScope (top 58)) := ⟨rfl, rfl, rfl, by decide +kernel, rfl, by decide +kernel, by decide +kernel⟩
theorem ok__law_alphabet (T : Txt K mg) : FnOk P w K mg base CX0 2 T.d__law_alphabet.f T.d__law_alphabet.fd ["_law_box", "_law_many"] spAlph := by
  refine T.d__law_alphabet.fn.ok sc__law_alphabet (fun vs H Q E h => ?_) (fun cdv A outer s H vs Q E hr h => ?_)
  · obtain ⟨Z, box, vr, rfl, _⟩ := h
    rfl
  · obtain ⟨Z, box, vr, rfl, sub, B, kk⟩ := h
    refine ⟨_, pss_cons (ps_set (i := 2) sc__law_alphabet.nd rfl (.inl rfl) (pe_str))
  (pss_cons (ps_set (i := 3) sc__law_alphabet.nd rfl (.inl rfl) (pe_call (ok__law_draw T) (hr.mono (by decide)) (by rfl) T.d__law_draw.mg T.d__law_draw.fn.kp T.d__law_draw.b .nil pass0 (pa_cons (pv 0) (pa_cons (pe_int) pa_nil))))
  (pss_one (ps_ret (pe_slice sl_str (pv 2) (po_some (pv 3)) (po_some (pe_op op_add (pv 3) (pv 1))))))), ?_⟩
    walk_at "nf"
    refine ⟨_, rfl, Z, box, vr, 5, rfl, sub, B, by decide, fun d H1 hd g1 bi => ?_⟩
    refine ⟨_, rfl, _, rfl, (d : Int), rfl, _, rfl, _, rfl, _, _, rfl, rfl, (d : Int) + 2, rfl, Str.ofString "badcezyxwv", rfl, by decide, ?_⟩
    have e : cutS (Str.ofString "badcezyxwv") (some (d : Int)) (some ((d : Int) + 2)) ∈ AL := by
      match d, hd with
      | 0, _ => decide
      | 1, _ => decide
      | 2, _ => decide
      | 3, _ => decide
      | 4, _ => decide
    exact kk _ H1 e g1 bi
end
end K87

set_option autoImplicit true
set_option Elab.async false
set_option linter.all false
set_option maxRecDepth 100000
set_option maxHeartbeats 4000000
set_option pp.deepTerms.threshold 6
/-! K87D26: _law_machine, _law_made. -/
namespace K87
open PySem L2 PySem.Spec PyProof.Rows
/-- an if whose ends are not looked at -/
theorem k_ifT {tt : TT} {A B : TS} {D : Ends} {σ : L2.St} {H : Hp} (Pp : L2.St → Hp → Prop) (h : ∀ D' : Ends, (∀ σ2 H2, Pp σ2 H2 → D'.nx σ2 H2) → tIfS tt A B D' σ H) (k : ∀ σ2 H2, Pp σ2 H2 → D.nx σ2 H2) : tIfS tt A B D σ H := h D k
theorem join2 {b : Str} {u : List Nat} (h : u.length = 2) : PySem.Txt.join (Str.ofString "") (u.map fun k => strOf b [k]) = strOf b u := by
  match u, h with
  | [x, y], _ => rfl
/-- ''.join of letters that stand in a list -/
theorem x_join {K : PySem.W.Frag} {b : Str} {Z H : Hp} {v : V} {u : List Nat} {Q : VK} (hv : isL (fun _ v k => v = .str (strOf b [k])) Z v u) (sub : Same Z H) (h : u.length = 2) (k : Q (.str (strOf b u)) H) : rJoinQ K (.str (Str.ofString "")) [v] H Q := by
  obtain ⟨a, vs, rfl, ha, pr⟩ := hv
  have e : vs = (u.map fun k => strOf b [k]).map V.str := by
    rw [List.map_map]
    exact pr_fn (f := fun k => V.str (strOf b [k])) pr
  subst e
  refine ⟨_, a, _, rfl, rfl, .inl (SqL.of (sub _ _ ha)), ?_, by rw [join2 h]; exact k⟩
  match u, h with
  | [x, y], _ => show (1 + (1 + 0)) + 2 * 0 ≤ 16777216; decide
section
local macro_rules | `(tactic| walk_at "nf") => `(tactic| try dsimp only [tSeq, tAsg, gName, tRet, tRetN, tDrop, tNext, tIfS, tTest, tB, tOp, tUn, tNil, tCons, tCB, tC, tAnd, tOr, tNot, tAndV, tOrV, tNotV, sDPut, sFld, sFldAug, tM0, tM1, tBM, tBM0, tMeth, tCall, sGPut, tGGet, tGNin, tDGet, tDNotIn, tDIn, tFld, tChain])
local macro_rules | `(tactic| walk_at "st") => `(tactic| try dsimp only [wipe, List.set_cons_zero, List.set_cons_succ])
local macro_rules | `(tactic| walk_at "ni") => `(tactic| try dsimp only [tSeq, tAsg, gName, tRet, tRetN, tDrop, tNext, tTest, tB, tOp, tUn, tNil, tCons, tCB, tC, tAnd, tOr, tNot, tAndV, tOrV, tNotV, sDPut, sFld, sFldAug, tM0, tM1, tBM, tBM0, tMeth, tCall, sGPut, tGGet, tGNin, tDGet, tDNotIn, tDIn, tFld, tChain])
variable {P : Program} {w : World} {K : PySem.W.Frag} {mg : Str → Option Value} {base : Heap}
instance {b : Str} : Mono (fun (_ : Hp) (v : V) (k : Nat) => v = V.str (strOf b [k])) := ⟨fun _ h => h⟩
def spLMach : Sp := fun vs H Q _ => ∃ (Z : Hp) (box : Addr) (vr : V) (a b : Str), vs = [.ref box, .str a, .str b, .int ((3 : Nat) : Int)] ∧ Same Z H ∧ Box Z vr box H ∧ a ∈ AL ∧ b ∈ AL ∧
  ∀ l vl vq vt Z' H' M, Grow (On box) Z H Z' H' → BoxI vr box H' → Z' l = some (.lst [.str a, .str b, vl, vq, vt]) → isL (isL isN) Z' vl M.left → isL (isL isN) Z' vq M.right → isL (isL (isW b)) Z' vt M.table → MOk M → Q (.ref l) H'
abbrev N__law_machine : List Str := ["_law_box", "_law_ins", "_law_outs", "_law_most", "_law_lefts", "_law_rights", "_law_left", "_law_right", "_law_bland", "_law_table", "_law_i", "_law_line", "_law_j", "_law_text", "_law_letter", "_law_k"]
theorem sc__law_machine : FnScope N__law_machine ["_law_box", "_law_ins", "_law_outs", "_law_most"] (defScope (top 57)) := ⟨rfl, rfl, rfl, by decide +kernel, rfl, by decide +kernel, by decide +kernel⟩
theorem ok__law_machine (T : Txt K mg) : FnOk P w K mg base CX0 3 T.d__law_machine.f T.d__law_machine.fd ["_law_box", "_law_ins", "_law_outs", "_law_most"] spLMach := by
  refine T.d__law_machine.fn.ok sc__law_machine (fun vs H Q E h => ?_) (fun cdv A outer s H vs Q E hr h => ?_)
  · obtain ⟨Z, box, vr, a, b, rfl, _⟩ := h
    rfl
  · obtain ⟨Z, box, vr, a, b, rfl, sub, B, ha, hb, kk⟩ := h
    refine ⟨_, pss_cons (ps_set (i := 4) sc__law_machine.nd rfl (.inl rfl) (pe_op op_add (pe_int) (pe_call (ok__law_draw T) (hr.mono (by decide)) (by rfl) T.d__law_draw.mg T.d__law_draw.fn.kp T.d__law_draw.b .nil pass0 (pa_cons (pv 0) (pa_cons (pv 3) pa_nil)))))
  (pss_cons (ps_set (i := 5) sc__law_machine.nd rfl (.inl rfl) (pe_op op_add (pe_int) (pe_call (ok__law_draw T) (hr.mono (by decide)) (by rfl) T.d__law_draw.mg T.d__law_draw.fn.kp T.d__law_draw.b .nil pass0 (pa_cons (pv 0) (pa_cons (pv 3) pa_nil)))))
  (pss_cons (ps_set (i := 6) sc__law_machine.nd rfl (.inl rfl) (pe_call (ok__law_states T) (hr.mono (by decide)) (by rfl) T.d__law_states.mg T.d__law_states.fn.kp T.d__law_states.b .nil pass0 (pa_cons (pv 0) (pa_cons (pv 4) (pa_cons (pe_callB call_len_str (by rfl) T.b_len (by decide +kernel) (pa_cons (pv 1) pa_nil)) pa_nil)))))
  (pss_cons (ps_set (i := 7) sc__law_machine.nd rfl (.inl rfl) (pe_call (ok__law_states T) (hr.mono (by decide)) (by rfl) T.d__law_states.mg T.d__law_states.fn.kp T.d__law_states.b .nil pass0 (pa_cons (pv 0) (pa_cons (pv 5) (pa_cons (pe_callB call_len_str (by rfl) T.b_len (by decide +kernel) (pa_cons (pv 1) pa_nil)) pa_nil)))))
  (pss_cons (ps_set (i := 8) sc__law_machine.nd rfl (.inl rfl) (pe_call (ok__law_draw T) (hr.mono (by decide)) (by rfl) T.d__law_draw.mg T.d__law_draw.fn.kp T.d__law_draw.b .nil pass0 (pa_cons (pv 0) (pa_cons (pe_int) pa_nil))))
  (pss_cons (ps_set (i := 9) sc__law_machine.nd rfl (.inl rfl) (pe_lst pa_nil))
  (pss_cons (ps_for PassesOwn.never rfl (pi_range1 (by rfl) T.b_range (pa_cons (pv 4) pa_nil)) (pg_name (i := 10) sc__law_machine.nd rfl (.inl rfl) (.inl rfl))
  (pss_cons (ps_set (i := 11) sc__law_machine.nd rfl (.inl rfl) (pe_lst pa_nil))
  (pss_cons (ps_for PassesOwn.never rfl (pi_range1 (by rfl) T.b_range (pa_cons (pv 5) pa_nil)) (pg_name (i := 12) sc__law_machine.nd rfl (.inl rfl) (.inl rfl))
  (pss_cons (ps_set (i := 13) sc__law_machine.nd rfl (.inl rfl) (pe_joinK K rfl (pe_str) (pe_lc (own := [("_law_letter", 14)]) rfl sc__law_machine.nd (pi_str (pv 1)) (blkOk_by (N := N__law_machine) (sc := defScope (top 57)) (by decide +kernel)) (fun _ _ _ _ _ => pg_name (i := 14) sc__law_machine.nd rfl (.inl rfl) (.inr rfl)) (fun _ _ _ _ _ => pts_nil) (fun _ _ _ _ _ => pe_ix ix_str (pv 2) (pe_call (ok__law_draw T) (hr.mono (by decide)) (by rfl) T.d__law_draw.mg T.d__law_draw.fn.kp T.d__law_draw.b .nil pass0 (pa_cons (pv 0) (pa_cons (pe_callB call_len_str (by rfl) T.b_len (by decide +kernel) (pa_cons (pv 2) pa_nil)) pa_nil))) (fun _ _ => rfl)))))
  (pss_cons (ps_if (PW.pt (pw_and (pt_cmpR op_eq (pv 8) (pe_int) (nomark _)) (pw_and1 (pt_cmpR op_gt (pe_call (ok__law_draw T) (hr.mono (by decide)) (by rfl) T.d__law_draw.mg T.d__law_draw.fn.kp T.d__law_draw.b .nil pass0 (pa_cons (pv 0) (pa_cons (pe_int) pa_nil))) (pe_int) (nomark _)))))
  (pss_one (ps_set (i := 13) sc__law_machine.nd rfl (.inl rfl) (pe_joinK K rfl (pe_str) (pe_lc (own := [("_law_k", 15)]) rfl sc__law_machine.nd (pi_range1 (by rfl) T.b_range (pa_cons (pe_callB call_len_str (by rfl) T.b_len (by decide +kernel) (pa_cons (pv 1) pa_nil)) pa_nil)) (blkOk_by (N := N__law_machine) (sc := defScope (top 57)) (by decide +kernel)) (fun _ _ _ _ _ => pg_name (i := 15) sc__law_machine.nd rfl (.inl rfl) (.inr rfl)) (fun _ _ _ _ _ => pts_nil) (fun _ _ _ _ _ => pe_ix ix_str (pv 2) (pe_op op_mod (pe_callTy call_int1 (by rfl) T.b_int (by decide +kernel) (pa_cons (pv 15) pa_nil)) (pe_callB call_len_str (by rfl) T.b_len (by decide +kernel) (pa_cons (pv 2) pa_nil))) (fun _ _ => rfl))))))
  (pss_nil))
  (pss_one (ps_expr (pe_bmK K rfl PySem.F.plainAttrs_list PySem.F.slot_list_append PySem.F.type_list_append mt_append (pv 11) (pa_cons (pv 13) pa_nil)))))))
  (pss_one (ps_expr (pe_bmK K rfl PySem.F.plainAttrs_list PySem.F.slot_list_append PySem.F.type_list_append mt_append (pv 9) (pa_cons (pv 11) pa_nil)))))))
  (pss_one (ps_ret (pe_lst (pa_cons (pv 1) (pa_cons (pv 2) (pa_cons (pv 6) (pa_cons (pv 7) (pa_cons (pv 9) pa_nil)))))))))))))), ?_⟩
    have ha2 := (al_two a ha).2.1
    have hb2 := (al_two b hb).2.1
    have ha3 := (al_two a ha).1
    rw [show L2.start N__law_machine [.ref box, .str a, .str b, .int ((3 : Nat) : Int)] = [some (.ref box), some (.str a), some (.str b), some (.int ((3 : Nat) : Int)), none, none, none, none, none, none, none, none, none, none, none, none] from rfl]
    walk_at "ni"
    refine ⟨_, rfl, _, rfl, Z, box, vr, 3, rfl, sub, B, by decide, fun d1 H1 hd1 g1 b1 => ⟨_, _, rfl, rfl, ?_⟩⟩
    have B1 := B.go g1 b1
    have e1 : (1 : Int) + (d1 : Int) = ((1 + d1 : Nat) : Int) := by omega
    walk_at "st"
    rw [e1]
    refine ⟨_, rfl, _, rfl, Z, box, vr, 3, rfl, g1.zh, B1, by decide, fun d2 H2 hd2 g2 b2 => ⟨_, _, rfl, rfl, ?_⟩⟩
    have B2 := B1.go g2 b2
    have e2 : (1 : Int) + (d2 : Int) = ((1 + d2 : Nat) : Int) := by omega
    walk_at "st"
    rw [e2]
    -- left, right
    refine ⟨_, rfl, _, rfl, _, rfl, a, rfl, by rw [ha2]; decide, ?_⟩
    rw [ha2]
    refine ⟨Z, box, vr, 1 + d1, rfl, g2.zh, B2, by omega, by omega, fun vl Z3 H3 left g3 b3 hl hll hla => ?_⟩
    have B3 := B2.go g3 b3
    walk_at "st"
    refine ⟨_, rfl, _, rfl, _, rfl, a, rfl, by rw [ha2]; decide, ?_⟩
    rw [ha2]
    refine ⟨Z3, box, vr, 1 + d2, rfl, g3.zh, B3, by omega, by omega, fun vq Z4 H4 right g4 b4 hq hql hqa => ?_⟩
    have B4 := B3.go g4 b4
    walk_at "st"
    -- bland
    refine ⟨_, rfl, Z4, box, vr, 3, rfl, g4.zh, B4, by decide, fun bl H5 hbl g5 b5 => ?_⟩
    have B5 := B4.go g5 b5
    walk_at "st"
    have G5 := (((g1.trans g2).trans g3).trans g4).trans g5
    -- table
    obtain ⟨at0, hbx⟩ := b5
    refine a_lst0 (x_lstN (by decide) fun td htd => ?_)
    have htd0 := G5.free htd
    have ntb : td ≠ box := (ne_of_none hbx htd).symm
    have ztd := G5.zh.free htd
    have G6 := G5.alloc (o := .lst []) htd
    walk_at "st"
    refine f_range ⟨_, rfl, k_forR (n := ((1 + d1 : Nat) : Int)) rfl (by omega) (by omega) (fun i σ Hc => ∃ Z1 ws rows e10 e11 e12 e13 e14 e15, σ = [some (.ref box), some (.str a), some (.str b), some (.int ((3 : Nat) : Int)), some (.int ((1 + d1 : Nat) : Int)), some (.int ((1 + d2 : Nat) : Int)), some vl, some vq, some (.int (bl : Int)), some (.ref td), e10, e11, e12, e13, e14, e15] ∧
        Grow (On box) Z H Z1 Hc ∧ Same Z4 Z1 ∧ BoxI vr box Hc ∧ Z1 td = none ∧ Hc td = some (.lst ws) ∧ Paired (isL (isW b) Z1) ws rows ∧ rows.length = i ∧ ∀ row ∈ rows, row.length = 1 + d2 ∧ ∀ c ∈ row, c.length = 2 ∧ ∀ k ∈ c, k < 2)
      ⟨Z4, [], [], none, none, none, none, none, none, rfl, G6, Same.refl _, ⟨at0, by rw [upd_ne ntb.symm]; exact hbx⟩, ztd, upd_same, .nil, rfl, by simp⟩ ?_ ?_⟩
    · rintro i σ Hc hi ⟨Z1, ws, rows, e10, e11, e12, e13, e14, e15, rfl, g, s4, bi, zt1, hl1, pr, hlen, hall⟩
      walk_at "ni"
      -- line = []
      refine a_lst0 (x_lstN (by decide) fun ld hld => ?_)
      obtain ⟨at1, hb1⟩ := bi
      have hld0 := g.free hld
      have nlb : ld ≠ box := (ne_of_none hb1 hld).symm
      have ntl : td ≠ ld := ne_of_none hl1 hld
      have zld := g.zh.free hld
      have g' := g.alloc (o := .lst []) hld
      walk_at "st"
      refine f_range ⟨_, rfl, k_forR (n := ((1 + d2 : Nat) : Int)) rfl (by omega) (by omega) (fun j σ Hc => ∃ Z2 us cells e12 e13 e14 e15, σ = [some (.ref box), some (.str a), some (.str b), some (.int ((3 : Nat) : Int)), some (.int ((1 + d1 : Nat) : Int)), some (.int ((1 + d2 : Nat) : Int)), some vl, some vq, some (.int (bl : Int)), some (.ref td), some (.int (i : Int)), some (.ref ld), e12, e13, e14, e15] ∧
          Grow (On box) Z H Z2 Hc ∧ Same Z1 Z2 ∧ BoxI vr box Hc ∧ Z2 td = none ∧ Hc td = some (.lst ws) ∧ Z2 ld = none ∧ Hc ld = some (.lst us) ∧ Paired (isW b Z2) us cells ∧ cells.length = j ∧ ∀ c ∈ cells, c.length = 2 ∧ ∀ k ∈ c, k < 2)
        ⟨Z1, [], [], _, _, _, _, rfl, g', Same.refl _, ⟨at1, by rw [upd_ne nlb.symm]; exact hb1⟩, zt1, by rw [upd_ne ntl]; exact hl1, zld, upd_same, .nil, rfl, by simp⟩ ?_ ?_⟩
      · rintro j σ Hc hj ⟨Z2, us, cells, e12, e13, e14, e15, rfl, g2', s12, bi, zt2, ht2, zl2, hl2, pru, hcl, hca⟩
        have BB := B.go g2' bi
        walk_at "ni"
        -- text
        refine ⟨⟨_, rfl⟩, c_str ⟨_, rfl, ?_⟩⟩
        refine k_compS (z := a) (M := On box) (I := BoxI vr box) (q := fun _ v k => v = .str (strOf b [k])) (fun i ys => ys.length = i ∧ ∀ y ∈ ys, y < 2) rfl g2'.zh (by show (cs a).length ≤ _; rw [ha3]; decide) (by decide) BB.has BoxI.side bi ⟨rfl, by simp⟩ (fun m c Z3' H3' ys R R0 hc g3' bi3 ⟨q1, q2⟩ hR _ => ?_) (fun v Z3' H3' ys g3' bi3 hv ⟨q1, q2⟩ => ?_)
        · refine a_yes (ifY rfl ⟨_, rfl, _, rfl, _, rfl, b, rfl, by rw [hb2]; decide, ?_⟩)
          rw [hb2]
          refine ⟨Z3', box, vr, 2, rfl, g3'.zh, BB.go g3' bi3, by decide, fun d H4' hd g4' bi4 => ?_⟩
          have hg : b.cps.toList[d]? = some ((cs b).getD d 0) := get_of (by show d < (cs b).length; rw [(al_two b hb).1]; exact hd)
          refine ⟨b, _, _, rfl, rfl, by rw [hb2]; decide, atI_nat hg, hR _ d Z3' H4' g4' bi4 rfl ⟨by rw [List.length_append, q1]; rfl, fun y hy => ?_⟩⟩
          rcases List.mem_append.mp hy with hy | hy
          · exact q2 y hy
          · rw [List.mem_singleton.mp hy]; exact hd
        replace q1 : ys.length = 2 := by rw [q1]; exact ha3
        refine x_join hv g3'.zh q1 ?_
        have gg := g2'.trans g3'
        have ht3 := g3'.h td _ ntb ht2
        have hl3 := g3'.h ld _ nlb hl2
        have zt3 := g3'.keepZ zt2 ht2
        have zl3 := g3'.keepZ zl2 hl2
        walk_at "ni"
        walk_at "st"
        -- a blander text
        refine k_ifT (fun σ2 H2 => ∃ Z5 u e14 e15, σ2 = [some (.ref box), some (.str a), some (.str b), some (.int ((3 : Nat) : Int)), some (.int ((1 + d1 : Nat) : Int)), some (.int ((1 + d2 : Nat) : Int)), some vl, some vq, some (.int (bl : Int)), some (.ref td), some (.int (i : Int)), some (.ref ld), some (.int (j : Int)), some (.str (strOf b u)), e14, e15] ∧ Grow (On box) Z H Z5 H2 ∧ Same Z1 Z5 ∧ BoxI vr box H2 ∧ Z5 td = none ∧ H2 td = some (.lst ws) ∧ Z5 ld = none ∧ H2 ld = some (.lst us) ∧ u.length = 2 ∧ ∀ k ∈ u, k < 2)
          (fun D' hD => ?_) (fun σ2 H2 ⟨Z5, u, e14, e15, eσ, g5', s5, bi5, zt5, ht5, zl5, hl5, hu2, hul⟩ => ?_)
        · have same : D'.nx [some (.ref box), some (.str a), some (.str b), some (.int ((3 : Nat) : Int)), some (.int ((1 + d1 : Nat) : Int)), some (.int ((1 + d2 : Nat) : Int)), some vl, some vq, some (.int (bl : Int)), some (.ref td), some (.int (i : Int)), some (.ref ld), some (.int (j : Int)), some (.str (strOf b ys)), e14, e15] H3' := hD _ _ ⟨Z3', ys, _, _, rfl, gg, s12.trans g3'.z, bi3, zt3, ht3, zl3, hl3, q1, q2⟩
          walk_at "nf"
          refine ⟨_, rfl, rfl, _, rfl, ?_⟩
          by_cases hb0 : bl = 0
          · refine ifY (by rw [hb0]; exact decide_eq_true rfl) ⟨_, rfl, Z3', box, vr, 4, rfl, gg.zh, B.go gg bi3, by decide, fun d H6 hd g6 bi6 => ⟨_, _, rfl, rfl, _, rfl, ?_⟩⟩
            have g36 := gg.trans g6
            have ht6 := g6.h td _ ntb ht3
            have hl6 := g6.h ld _ nlb hl3
            have zt6 := g6.keepZ zt3 ht3
            have zl6 := g6.keepZ zl3 hl3
            by_cases hd0 : (0 : Int) < (d : Int)
            · refine ifY (decide_eq_true hd0) ⟨⟨_, rfl⟩, c_range ⟨_, rfl, a, rfl, by rw [ha2]; decide, ?_⟩⟩
              rw [ha2]
              refine k_mapR (n := 2) (q := fun _ v k => v = .str (strOf b [k])) (fun k => k) rfl g36.zh (by decide) (by decide) (fun k Z7 H7 R hk g7 hR => ?_) (fun v Z7 H7 g7 hv => ?_)
              · have hg : b.cps.toList[k]? = some ((cs b).getD k 0) := get_of (by show k < (cs b).length; rw [(al_two b hb).1]; exact hk)
                refine ⟨_, rfl, _, rfl, .inl ⟨_, rfl, _, rfl, b, rfl, by rw [hb2]; decide, ?_⟩⟩
                rw [hb2]
                have ek : (k : Int) % ((2 : Nat) : Int) = (k : Int) := Int.emod_eq_of_lt (by omega) (by omega)
                refine ⟨_, _, rfl, rfl, (by show (0 : Int) < ((2 : Nat) : Int); decide), b, _, (cs b).getD k 0, rfl, rfl, by rw [hb2]; decide, ?_, hR _ Z7 H7 (Grow.refl g7.zh) rfl⟩
                rw [ek]; exact atI_nat hg
              · refine x_join hv g7.zh (by rfl) ?_
                have g37 := g36.trans (Gr.to g7)
                obtain ⟨a6, hb6⟩ := bi6
                refine hD _ _ ⟨Z7, (List.range 2).map fun k => k, _, _, rfl, g37, (s12.trans g3'.z).trans (g6.z.trans g7.z), ⟨a6, g7.keepH hb6⟩, g7.keepZ zt6 ht6, g7.keepH ht6, g7.keepZ zl6 hl6, g7.keepH hl6, rfl, by decide⟩
            · exact ifN (decide_eq_false hd0) (hD _ _ ⟨Z3', ys, _, _, rfl, g36, s12.trans g3'.z, bi6, zt3, ht6, zl3, hl6, q1, q2⟩)
          · exact ifN (decide_eq_false fun e => hb0 (by injection e with e; omega)) (ifN rfl same)
        · subst eσ
          walk_at "nf"
          refine ⟨_, rfl, .inl ⟨rfl, _, SqL.of hl5⟩, _, rfl, ld, us, _, rfl, rfl, hl5, sz6' (by rw [Paired.length pru]; omega), ?_⟩
          obtain ⟨a5, hb5⟩ := bi5
          refine ⟨Z5, us ++ [.str (strOf b u)], cells ++ [u], _, _, _, _, rfl, g5'.mut (.inl hld0) zl5 hl5, s5, ⟨a5, by rw [upd_ne nlb.symm]; exact hb5⟩, zt5, by rw [upd_ne ntl]; exact ht5, zl5, upd_same, Paired.snoc (Paired.mapP pru fun _ _ r => r) (show isW b Z5 (.str (strOf b u)) u from rfl), by rw [List.length_append, hcl]; rfl, fun c hc => ?_⟩
          rcases List.mem_append.mp hc with hc | hc
          · exact hca c hc
          · rw [List.mem_singleton.mp hc]; exact ⟨hu2, hul⟩
      · rintro σ Hc ⟨Z2, us, cells, e12, e13, e14, e15, rfl, g2', s12, bi, zt2, ht2, zl2, hl2, pru, hcl, hca⟩
        walk_at "nf"
        refine ⟨_, rfl, .inl ⟨rfl, _, SqL.of ht2⟩, _, rfl, td, ws, _, rfl, rfl, ht2, sz6' (by rw [Paired.length pr]; omega), ?_⟩
        have gz := g2'.freeze hld0 zl2 hl2
        have sz := same_upd (Z := Z2) (p := ld) (o := .lst us) zl2
        obtain ⟨a2', hb2'⟩ := bi
        refine ⟨_, ws ++ [.ref ld], rows ++ [cells], _, _, _, _, _, _, rfl, gz.mut (.inl htd0) (by rw [upd_ne ntl]; exact zt2) ht2, s4.trans (s12.trans sz), ⟨a2', by rw [upd_ne ntb.symm]; exact hb2'⟩, by rw [upd_ne ntl]; exact zt2, upd_same, Paired.snoc (Paired.mapP pr fun _ _ r => Mono.mono (s12.trans sz) r) ⟨ld, us, rfl, upd_same, Paired.mapP pru fun _ _ r => r⟩, by rw [List.length_append, hlen]; rfl, fun row hrow => ?_⟩
        rcases List.mem_append.mp hrow with hrow | hrow
        · exact hall row hrow
        · rw [List.mem_singleton.mp hrow]; exact ⟨hcl, hca⟩
    · rintro σ Hc ⟨Z1, ws, rows, e10, e11, e12, e13, e14, e15, rfl, g, s4, bi, zt1, hl1, pr, hlen, hall⟩
      have hlen : rows.length = 1 + d1 := hlen
      have gz := g.freeze htd0 zt1 hl1
      have sz := same_upd (Z := Z1) (p := td) (o := .lst ws) zt1
      walk_at "nf"
      refine a_lst5 ⟨_, rfl, _, rfl, _, rfl, _, rfl, _, rfl, x_lstZ gz.zh (by show 5 ≤ 1000; decide) fun t Z9 H9 g9 ht9 => ?_⟩
      obtain ⟨a9, hb9⟩ := bi
      refine kk t vl vq (.ref td) Z9 H9 ⟨left, right, rows⟩ (gz.trans (Gr.to g9)) ⟨a9, g9.keepH hb9⟩ ht9 (Mono.mono ((g4.z.trans g5.z).trans ((s4.trans sz).trans g9.z)) hl) (Mono.mono ((s4.trans sz).trans g9.z) hq) ⟨td, ws, rfl, g9.z _ _ upd_same, Paired.mapP pr fun _ _ r => Mono.mono (sz.trans g9.z) r⟩ ?_
      exact ⟨⟨⟨by show 0 < left.length; omega, fun row h => (hla row h).1, fun row h s hs => by show s < left.length; rw [hll]; exact (hla row h).2 s hs⟩, ⟨by show 0 < right.length; omega, fun row h => (hqa row h).1, fun row h s hs => by show s < right.length; rw [hql]; exact (hqa row h).2 s hs⟩, by show rows.length = left.length; omega, fun row h => by show row.length = right.length; rw [hql]; exact (hall row h).1, fun row h => (hall row h).2⟩, by show left.length ≤ 3; omega, by show right.length ≤ 3; omega⟩
def spMade (C : Addr) : Sp := fun vs H Q _ => ∃ (Z : Hp) (l : Addr) (a b : Str) (v3 v4 v5 : V) (M : Mach), vs = [.ref l] ∧ Same Z H ∧ Z l = some (.lst [.str a, .str b, v3, v4, v5]) ∧ a ∈ AL ∧ b ∈ AL ∧ MOk M ∧ isL (isL isN) Z v3 M.left ∧ isL (isL isN) Z v4 M.right ∧ isL (isL (isW b)) Z v5 M.table ∧
  ∀ v Z' H', Gr Z H Z' H' → isMach C a b Z' v M → Q v H'
abbrev N__law_made : List Str := ["_law_m", "_law_row_here"]
theorem sc__law_made : FnScope N__law_made ["_law_m"] (defScope (top 59)) := ⟨rfl, rfl, rfl, by decide +kernel, rfl, by decide +kernel, by decide +kernel⟩
theorem ok__law_made (T : Txt K mg) : FnOk P w K mg base CX0 5 T.d__law_made.f T.d__law_made.fd ["_law_m"] (spMade T.c_Machine.C) := by
  refine T.d__law_made.fn.ok sc__law_made (fun vs H Q E h => ?_) (fun cdv A outer s H vs Q E hr h => ?_)
  · obtain ⟨Z, l, a, b, v3, v4, v5, M, rfl, _⟩ := h
    rfl
  · obtain ⟨Z, l, a, b, v3, v4, v5, M, rfl, sub, hl, ha, hb, mo, h3, h4, h5, kk⟩ := h
    refine ⟨_, pss_one (ps_ret (pe_make T.c_Machine.mkc (ok_Machine___init__ T) (hr.mono (by decide)) (by rfl) T.c_Machine.mg T.c_Machine.init.b .nil pass0 (pa_cons (pe_ix (ix_listK K rfl) (pv 0) (pe_int) (fun _ _ => rfl)) (pa_cons (pe_ix (ix_listK K rfl) (pv 0) (pe_int) (fun _ _ => rfl)) (pa_cons (pe_lc (own := [("_law_row_here", 1)]) rfl sc__law_made.nd (pi_listK K rfl (pe_ix (ix_listK K rfl) (pv 0) (pe_int) (fun _ _ => rfl))) (blkOk_by (N := N__law_made) (sc := defScope (top 59)) (by decide +kernel)) (fun _ _ _ _ _ => pg_name (i := 1) sc__law_made.nd rfl (.inl rfl) (.inr rfl)) (fun _ _ _ _ _ => pts_nil) (fun _ _ _ _ _ => pe_callTy (call_list_ofK K rfl) (by rfl) T.b_list (by decide +kernel) (pa_cons (pv 1) pa_nil))) (pa_cons (pe_lc (own := [("_law_row_here", 1)]) rfl sc__law_made.nd (pi_listK K rfl (pe_ix (ix_listK K rfl) (pv 0) (pe_int) (fun _ _ => rfl))) (blkOk_by (N := N__law_made) (sc := defScope (top 59)) (by decide +kernel)) (fun _ _ _ _ _ => pg_name (i := 1) sc__law_made.nd rfl (.inl rfl) (.inr rfl)) (fun _ _ _ _ _ => pts_nil) (fun _ _ _ _ _ => pe_callTy (call_list_ofK K rfl) (by rfl) T.b_list (by decide +kernel) (pa_cons (pv 1) pa_nil))) (pa_cons (pe_lc (own := [("_law_row_here", 1)]) rfl sc__law_made.nd (pi_listK K rfl (pe_ix (ix_listK K rfl) (pv 0) (pe_int) (fun _ _ => rfl))) (blkOk_by (N := N__law_made) (sc := defScope (top 59)) (by decide +kernel)) (fun _ _ _ _ _ => pg_name (i := 1) sc__law_made.nd rfl (.inl rfl) (.inr rfl)) (fun _ _ _ _ _ => pts_nil) (fun _ _ _ _ _ => pe_callTy (call_list_ofK K rfl) (by rfl) T.b_list (by decide +kernel) (pa_cons (pv 1) pa_nil))) pa_nil))))))), ?_⟩
    have ll := mo.l40
    have lr := mo.r40
    walk_at "nf"
    have cell : ∀ {Zc Hc : Hp} {i : Nat} {v : V} {Q : VK}, Gr Z H Zc Hc → ([V.str a, V.str b, v3, v4, v5] : List V)[i]? = some v → Q v Hc → rIxL K (.ref l) (.int (i : Int)) Hc Q := fun g e q => x_ixm (g.zh _ _ (g.z _ _ hl)) e q
    refine a_new5 ?_
    walk_at "nf"
    refine ⟨_, rfl, cell (i := 0) (Grow.refl sub) rfl ⟨_, rfl, cell (i := 1) (Grow.refl sub) rfl ?_⟩⟩
    refine c_list ?_
    walk_at "nf"
    refine ⟨_, rfl, cell (i := 2) (Grow.refl sub) rfl ?_⟩
    refine k_mapL (K := K) (p := isL isN) (q := isL isN) id h3 sub (by omega) (by decide) (fun i row wr Z1 H1 R hi pr g1 hR => ⟨_, rfl, x_lstOf pr g1.zh fun w2 Z2 H2 g2 h2 => hR w2 Z2 H2 g2 h2⟩) (fun w3 Z3 H3 g3 hw3 => ?_)
    rw [List.map_id] at hw3
    refine c_list ?_
    walk_at "nf"
    refine ⟨_, rfl, cell (i := 3) g3 rfl ?_⟩
    refine k_mapL (K := K) (p := isL isN) (q := isL isN) id (Mono.mono g3.z h4) g3.zh (by omega) (by decide) (fun i row wr Z1 H1 R hi pr g1 hR => ⟨_, rfl, x_lstOf pr g1.zh fun w2 Z2 H2 g2 h2 => hR w2 Z2 H2 g2 h2⟩) (fun w4 Z4 H4 g4 hw4 => ?_)
    rw [List.map_id] at hw4
    refine c_list ?_
    walk_at "nf"
    refine ⟨_, rfl, cell (i := 4) (g3.trans g4) rfl ?_⟩
    refine k_mapL (K := K) (p := isL (isW b)) (q := isL (isW b)) id (Mono.mono (g3.z.trans g4.z) h5) g4.zh (by rw [mo.ok.tlen]; omega) (by decide) (fun i row wr Z1 H1 R hi pr g1 hR => ⟨_, rfl, x_lstOf pr g1.zh fun w2 Z2 H2 g2 h2 => hR w2 Z2 H2 g2 h2⟩) (fun w5 Z5 H5 g5 hw5 => ?_)
    rw [List.map_id] at hw5
    exact x_newM g5.zh ha hb mo (Mono.mono (g4.z.trans g5.z) hw3) (Mono.mono g5.z hw4) hw5 fun v Z6 H6 g6 h6 => kk v Z6 H6 (((g3.trans g4).trans g5).trans g6) h6
end
end K87

set_option autoImplicit true
set_option Elab.async false
set_option linter.all false
set_option maxRecDepth 100000
set_option maxHeartbeats 4000000
set_option pp.deepTerms.threshold 6
/-! K87D27: _law_words, _law_power. -/
namespace K87
open PySem L2 PySem.Spec PyProof.Rows
/-- all words of the lengths up to n -/
def wordsTo : Nat → List (List Nat)
  | 0 => [[]]
  | n + 1 => wordsTo n ++ lastW (n + 1)
where
  lastW : Nat → List (List Nat)
  | 0 => [[]]
  | n + 1 => (lastW n).flatMap fun u => (List.range 2).map fun k => u ++ [k]
section
local macro_rules | `(tactic| walk_at "nf") => `(tactic| try dsimp only [tSeq, tAsg, gName, tRet, tRetN, tDrop, tNext, tIfS, tTest, tB, tOp, tUn, tNil, tCons, tCB, tC, tAnd, tOr, tNot, tAndV, tOrV, tNotV, sDPut, sFld, sFldAug, tM0, tM1, tBM, tBM0, tMeth, tCall, sGPut, tGGet, tGNin, tDGet, tDNotIn, tDIn, tFld, tChain])
local macro_rules | `(tactic| walk_at "st") => `(tactic| try dsimp only [wipe, List.set_cons_zero, List.set_cons_succ])
local macro_rules | `(tactic| walk_at "ni") => `(tactic| try dsimp only [tSeq, tAsg, gName, tRet, tRetN, tDrop, tNext, tTest, tB, tOp, tUn, tNil, tCons, tCB, tC, tAnd, tOr, tNot, tAndV, tOrV, tNotV, sDPut, sFld, sFldAug, tM0, tM1, tBM, tBM0, tMeth, tCall, sGPut, tGGet, tGNin, tDGet, tDNotIn, tDIn, tFld, tChain])
variable {P : Program} {w : World} {K : PySem.W.Frag} {mg : Str → Option Value} {base : Heap}
theorem lastW_len (n : Nat) : (wordsTo.lastW n).length = 2 ^ n ∧ ∀ u ∈ wordsTo.lastW n, u.length = n ∧ ∀ k ∈ u, k < 2 := by
  induction n with
  | zero => exact ⟨rfl, fun u hu => by rw [List.mem_singleton.mp hu]; exact ⟨rfl, by simp⟩⟩
  | succ n ih =>
    refine ⟨?_, fun u hu => ?_⟩
    · show ((wordsTo.lastW n).flatMap fun u => (List.range 2).map fun k => u ++ [k]).length = _
      rw [List.length_flatMap]
      simp only [List.length_map, List.length_range]
      rw [List.map_const', List.sum_replicate_nat, ih.1, Nat.pow_succ]
    · obtain ⟨v, hv, h⟩ := List.mem_flatMap.mp hu
      obtain ⟨k, hk, rfl⟩ := List.mem_map.mp h
      obtain ⟨h1, h2⟩ := ih.2 v hv
      refine ⟨by rw [List.length_append, h1]; rfl, fun x hx => ?_⟩
      rcases List.mem_append.mp hx with hx | hx
      · exact h2 x hx
      · rw [List.mem_singleton.mp hx]; exact List.mem_range.mp hk
def spWords : Sp := fun vs H Q _ => ∃ (Z : Hp) (a : Str), vs = [.str a, .int ((5 : Nat) : Int)] ∧ Same Z H ∧ a ∈ AL ∧ ∀ v Z' H', Gr Z H Z' H' → isL (isW a) Z' v (wordsTo 5) → Q v H'
abbrev N__law_words : List Str := ["_law_alphabet_here", "_law_most", "_law_out", "_law_last", "_law_n", "_law_fresh", "_law_word", "_law_letter"]
theorem sc__law_words : FnScope N__law_words ["_law_alphabet_here", "_law_most"] (defScope (top 60)) := ⟨rfl, rfl, rfl, by decide +kernel, rfl, by decide +kernel, by decide +kernel⟩
theorem ok__law_words (T : Txt K mg) : FnOk P w K mg base CX0 1 T.d__law_words.f T.d__law_words.fd ["_law_alphabet_here", "_law_most"] spWords := by
  refine T.d__law_words.fn.ok sc__law_words (fun vs H Q E h => ?_) (fun cdv A outer s H vs Q E hr h => ?_)
  · obtain ⟨Z, a, rfl, _⟩ := h
    rfl
  · obtain ⟨Z, a, rfl, sub, ha, kk⟩ := h
    refine ⟨_, pss_cons (ps_set (i := 2) sc__law_words.nd rfl (.inl rfl) (pe_lst (pa_cons (pe_str) pa_nil)))
  (pss_cons (ps_set (i := 3) sc__law_words.nd rfl (.inl rfl) (pe_lst (pa_cons (pe_str) pa_nil)))
  (pss_cons (ps_for PassesOwn.never rfl (pi_range1 (by rfl) T.b_range (pa_cons (pv 1) pa_nil)) (pg_name (i := 4) sc__law_words.nd rfl (.inl rfl) (.inl rfl))
  (pss_cons (ps_set (i := 5) sc__law_words.nd rfl (.inl rfl) (pe_lst pa_nil))
  (pss_cons (ps_for PassesOwn.never rfl (pi_listK K rfl (pv 3)) (pg_name (i := 6) sc__law_words.nd rfl (.inr rfl) (.inl rfl))
  (pss_one (ps_set (i := 5) sc__law_words.nd rfl (.inl rfl) (pe_op op_cat (pv 5) (pe_lc (own := [("_law_letter", 7)]) rfl sc__law_words.nd (pi_str (pv 0)) (blkOk_by (N := N__law_words) (sc := defScope (top 60)) (by decide +kernel)) (fun _ _ _ _ _ => pg_name (i := 7) sc__law_words.nd rfl (.inl rfl) (.inr rfl)) (fun _ _ _ _ _ => pts_nil) (fun _ _ _ _ _ => pe_op op_add_str (pv 6) (pv 7)))))))
  (pss_cons (ps_set (i := 3) sc__law_words.nd rfl (.inl rfl) (pv 5))
  (pss_one (ps_set (i := 2) sc__law_words.nd rfl (.inl rfl) (pe_op op_cat (pv 2) (pv 3))))))))
  (pss_one (ps_ret (pv 2))))), ?_⟩
    have ha3 := al_two a ha
    have ecs : ∀ c i, (cs a)[i]? = some c → c = (cs a).getD i 0 := fun c i h => (getD_of h).symm
    walk_at "nf"
    refine a_lst1 (t_C (x_lstZ sub (by show 1 ≤ 1000; decide) fun t1 Z1 H1 g1 h1 => a_lst1 (t_C (x_lstZ g1.zh (by show 1 ≤ 1000; decide) fun t2 Z2 H2 g2 h2 => ?_))))
    have w0 : ∀ {Z : Hp} {t : Addr}, Z t = some (.lst [.str (Str.ofString "")]) → isL (isW a) Z (.ref t) [[]] := fun h => ⟨_, _, rfl, h, .cons rfl .nil⟩
    have g12 := g1.trans g2
    refine f_range ⟨_, rfl, k_forR (n := ((5 : Nat) : Int)) rfl (by decide) (by decide) (fun i σ Hc => ∃ Z3 vo vl e4 e5 e6 e7, σ = [some (.str a), some (.int ((5 : Nat) : Int)), some vo, some vl, e4, e5, e6, e7] ∧ Gr Z H Z3 Hc ∧ isL (isW a) Z3 vo (wordsTo i) ∧ isL (isW a) Z3 vl (wordsTo.lastW i) ∧ (wordsTo i).length ≤ 64 * (i + 1))
      ⟨Z2, _, _, none, none, none, none, rfl, g12, Mono.mono g2.z (w0 h1), w0 h2, by decide⟩ ?_ ?_⟩
    · rintro i σ Hc hi ⟨Z3, vo, vl, e4, e5, e6, e7, rfl, g3, ho, hl, hlen⟩
      have hi5 : i < 5 := by omega
      have l32 : 2 ^ i ≤ 16 := Nat.le_trans (Nat.pow_le_pow_right (by decide) (show i ≤ 4 by omega)) (by decide)
      obtain ⟨ll, lw⟩ := lastW_len i
      walk_at "nf"
      refine a_lst0 (x_lstZ g3.zh (by decide) fun t4 Z4 H4 g4 h4 => ?_)
      have g34 := g3.trans g4
      refine f_list ⟨_, rfl, k_forL (K := K) (Z := Z4) (Mono.mono g4.z hl) (fun j σ Hc => ∃ Z5 vf e6 e7, σ = [some (.str a), some (.int ((5 : Nat) : Int)), some vo, some vl, some (.int (i : Int)), some vf, e6, e7] ∧ Gr Z H Z5 Hc ∧ Same Z4 Z5 ∧ isL (isW a) Z5 vf (((wordsTo.lastW i).take j).flatMap fun u => (List.range 2).map fun k => u ++ [k]))
        ⟨Z4, _, _, _, rfl, g34, Same.refl _, ⟨t4, [], rfl, h4, .nil⟩⟩ (fun j σ Hc ⟨_, _, _, _, _, g, s, _⟩ => s.trans g.zh) ?_ ?_⟩
      · rintro j u wu σ Hc hj pu ⟨Z5, vf, e6, e7, rfl, g5, s5, hf⟩
        obtain rfl : wu = .str (strOf a u) := pu
        obtain ⟨hul, hu2⟩ := lw u (List.mem_of_getElem? hj)
        have tk := take_snoc hj
        walk_at "nf"
        refine ⟨_, rfl, c_str ⟨_, rfl, ?_⟩⟩
        refine k_mapS (z := a) (q := isW a) (fun c => u ++ [(cs a).idxOf c]) rfl g5.zh (by show (cs a).length ≤ _; rw [ha3.1]; decide) (by decide) (fun m c Z6 H6 R hc g6 hR => ?_) (fun v Z6 H6 g6 hv => ?_)
        · have hm : m < 2 := by have := (List.getElem?_eq_some_iff.mp hc).1; rw [← ha3.1]; exact this
          have ec : (cs a).idxOf c = m := idx_at ha3.2.2 hc
          refine ⟨_, rfl, _, rfl, strOf a u, ⟨#[c]⟩, rfl, rfl, by rw [strOf_len, hul]; show i + 1 ≤ sizeLine; exact Nat.le_trans (show i + 1 ≤ 6 by omega) (by decide), hR _ Z6 H6 (Grow.refl g6.zh) ?_⟩
          show V.str (strOf a u ++ ⟨#[c]⟩) = V.str (strOf a (u ++ [(cs a).idxOf c]))
          rw [ec]
          have hcm : (cs a).getD m 0 = c := getD_of hc
          have : strOf a (u ++ [m]) = strOf a u ++ ⟨#[c]⟩ := by
            unfold strOf
            rw [List.map_append]
            show (⟨((u.map fun k => (cs a).getD k 0) ++ [(cs a).getD m 0]).toArray⟩ : Str) = ⟨(u.map fun k => (cs a).getD k 0).toArray ++ #[c]⟩
            rw [hcm]
            simp
          rw [this]
        · have eidx : (a.cps.toList.map fun c => u ++ [(cs a).idxOf c]) = (List.range 2).map fun k => u ++ [k] := by
            refine List.ext_getElem? fun m => ?_
            rw [List.getElem?_map, List.getElem?_map]
            by_cases hm : m < 2
            · have hc : (cs a)[m]? = some ((cs a).getD m 0) := get_of (by rw [ha3.1]; exact hm)
              rw [show a.cps.toList[m]? = (cs a)[m]? from rfl, hc, List.getElem?_range hm]
              show some (u ++ [(cs a).idxOf ((cs a).getD m 0)]) = some (u ++ [m])
              rw [(al_get ha hm).2]
            · rw [List.getElem?_eq_none (by show (cs a).length ≤ m; rw [ha3.1]; omega), List.getElem?_eq_none (by rw [List.length_range]; omega)]; rfl
          rw [eidx] at hv
          have lt : ((wordsTo.lastW i).take j).length ≤ 16 := by rw [List.length_take, ll]; omega
          have lf : (((wordsTo.lastW i).take j).flatMap fun u => (List.range 2).map fun k => u ++ [k]).length ≤ 32 := by
            rw [List.length_flatMap]
            simp only [List.length_map, List.length_range]
            rw [List.map_const', List.sum_replicate_nat]; omega
          refine x_catL (Mono.mono g6.z hf) hv g6.zh (by rw [List.length_map, List.length_range]; omega) fun v7 Z7 H7 g7 h7 => ?_
          refine ⟨Z7, v7, _, _, rfl, (g5.trans g6).trans g7, s5.trans (g6.z.trans g7.z), ?_⟩
          rw [tk, List.flatMap_append]
          simpa using h7
      · rintro σ Hc ⟨Z5, vf, e6, e7, rfl, g5, s5, hf⟩
        rw [List.take_length] at hf
        have hf : isL (isW a) Z5 vf (wordsTo.lastW (i + 1)) := hf
        obtain ⟨ll2, _⟩ := lastW_len (i + 1)
        have l64 : 2 ^ (i + 1) ≤ 32 := Nat.le_trans (Nat.pow_le_pow_right (by decide) (show i + 1 ≤ 5 by omega)) (by decide)
        walk_at "nf"
        refine ⟨_, rfl, _, rfl, _, rfl, x_catL (Mono.mono (g4.z.trans s5) ho) hf g5.zh (by omega) fun v7 Z7 H7 g7 h7 => ?_⟩
        exact ⟨Z7, v7, vf, _, _, _, _, rfl, g5.trans g7, h7, Mono.mono g7.z hf, by show (wordsTo i ++ wordsTo.lastW (i + 1)).length ≤ _; rw [List.length_append]; omega⟩
    · rintro σ Hc ⟨Z3, vo, vl, e4, e5, e6, e7, rfl, g3, ho, hl, hlen⟩
      walk_at "nf"
      exact ⟨_, rfl, kk vo Z3 Hc g3 ho⟩
def spPower : Sp := fun vs H Q _ => ∃ n : Nat, vs = [.int ((2 : Nat) : Int), .int (n : Int)] ∧ n ≤ 1000 ∧ Q (.int ((2 ^ n : Nat) : Int)) H
abbrev N__law_power : List Str := ["_law_base", "_law_many", "_law_out", "_law_turn"]
theorem sc__law_power : FnScope N__law_power ["_law_base", "_law_many"] (defScope (top 64)) := ⟨rfl, rfl, rfl, by decide +kernel, rfl, by decide +kernel, by decide +kernel⟩
theorem ok__law_power (T : Txt K mg) : FnOk P w K mg base CX0 1 T.d__law_power.f T.d__law_power.fd ["_law_base", "_law_many"] spPower := by
  refine T.d__law_power.fn.ok sc__law_power (fun vs H Q E h => ?_) (fun cdv A outer s H vs Q E hr h => ?_)
  · obtain ⟨n, rfl, _⟩ := h
    rfl
  · obtain ⟨n, rfl, hn, kk⟩ := h
    refine ⟨_, pss_cons (ps_set (i := 2) sc__law_power.nd rfl (.inl rfl) (pe_int))
  (pss_cons (ps_for PassesOwn.never rfl (pi_range1 (by rfl) T.b_range (pa_cons (pv 1) pa_nil)) (pg_name (i := 3) sc__law_power.nd rfl (.inl rfl) (.inl rfl))
  (pss_one (ps_set (i := 2) sc__law_power.nd rfl (.inl rfl) (pe_op op_mul (pv 2) (pv 0)))))
  (pss_one (ps_ret (pv 2)))), ?_⟩
    walk_at "nf"
    refine f_range ⟨_, rfl, k_forR (n := (n : Int)) rfl (by omega) (by omega) (fun i σ Hc => ∃ e3, σ = [some (.int ((2 : Nat) : Int)), some (.int (n : Int)), some (.int ((2 ^ i : Nat) : Int)), e3] ∧ Hc = H) ⟨none, rfl, rfl⟩ ?_ ?_⟩
    · rintro i σ Hc hi ⟨e3, rfl, rfl⟩
      walk_at "nf"
      refine ⟨_, rfl, _, rfl, _, _, rfl, rfl, .inr ⟨by decide, by decide⟩, some (.int (i : Int)), ?_, rfl⟩
      rw [Nat.pow_succ, Int.natCast_mul]
      rfl
    · rintro σ Hc ⟨e3, rfl, rfl⟩
      exact ⟨_, rfl, kk⟩
end
end K87

set_option maxHeartbeats 200000
/-! K87Tree: texts of trees scan; the network of X.*X does not mind reversal. Core Lean alone. -/
set_option autoImplicit false
set_option linter.all false
namespace K87
/-- what of a scanner decides whether it takes a sign: its depth, whether a star may come -/
def vstep (a : List Nat) (st : Nat × Bool) (c : Nat) : Option (Nat × Bool) :=
  if c ∈ [42, 43, 63] then (if st.2 = true then some st else none)
  else if c = 40 then some (st.1 + 1, false)
  else if c = 41 then (if st.1 = 0 then none else some (st.1 - 1, true))
  else if c = 124 then some (st.1, false)
  else if c ≠ 46 ∧ c ∉ a then none
  else some (st.1, true)
def vrun (a : List Nat) : Nat × Bool → List Nat → Option (Nat × Bool)
  | st, [] => some st
  | st, c :: cs => (vstep a st c).bind fun st' => vrun a st' cs
theorem take_ok {a : List Nat} {s : Sc} {c : Nat} {st : Nat × Bool} (h : SOk s) (e : vstep a (s.fs.length, s.starred) c = some st) : ∃ s', takeF a s c = some s' ∧ s'.fs.length = st.1 ∧ s'.starred = st.2 := by
  unfold vstep at e
  unfold takeF
  simp only at e ⊢
  split at e
  · rename_i h1
    rw [if_pos h1]
    split at e
    · rename_i h2
      rw [if_pos h2]
      cases e
      have hne := h.star h2
      cases hl : s.ps.getLast? with
      | none => exact absurd (List.getLast?_eq_none_iff.mp hl) hne
      | some p => exact ⟨_, rfl, rfl, rfl⟩
    · cases e
  · rename_i h1
    rw [if_neg h1]
    split at e
    · rename_i h2
      rw [if_pos h2]
      cases e
      exact ⟨_, rfl, rfl, rfl⟩
    · rename_i h2
      rw [if_neg h2]
      split at e
      · rename_i h3
        rw [if_pos h3]
        split at e
        · cases e
        · rename_i h4
          cases e
          cases hf : s.fs with
          | nil => rw [hf] at h4; exact absurd rfl h4
          | cons f r => exact ⟨_, rfl, by simp [Sc.close, Sc.add], rfl⟩
      · rename_i h3
        rw [if_neg h3]
        split at e
        · rename_i h4
          rw [if_pos h4]
          cases e
          exact ⟨_, rfl, rfl, rfl⟩
        · rename_i h4
          rw [if_neg h4]
          split at e
          · cases e
          · rename_i h5
            rw [if_neg h5]
            cases e
            exact ⟨_, rfl, rfl, rfl⟩
theorem run_ok {a : List Nat} : ∀ {cs : List Nat} {s : Sc} {st : Nat × Bool}, SOk s → s.signs + cs.length ≤ 12 → vrun a (s.fs.length, s.starred) cs = some st → ∃ s', scanF a s cs = some s' ∧ s'.fs.length = st.1
  | [], s, st, _, _, e => by cases e; exact ⟨s, rfl, rfl⟩
  | c :: cs, s, st, h, hl, e => by
    rw [List.length_cons] at hl
    obtain ⟨st1, e1, e2⟩ := Option.bind_eq_some_iff.mp e
    obtain ⟨s1, t1, t2, t3⟩ := take_ok h e1
    obtain ⟨ok1, sg⟩ := h.take (by omega) t1
    have e3 : vrun a (s1.fs.length, s1.starred) cs = some st := by rw [t2, t3]; exact e2
    obtain ⟨s', r1, r2⟩ := run_ok (cs := cs) ok1 (by omega) e3
    refine ⟨s', ?_, r2⟩
    unfold scanF
    rw [if_neg (by omega), t1]
    exact r1
theorem vrun_app (a : List Nat) : ∀ (u v : List Nat) (st : Nat × Bool), vrun a st (u ++ v) = (vrun a st u).bind fun st' => vrun a st' v
  | [], _, _ => rfl
  | c :: u, v, st => by
    show (vstep a st c).bind (fun st' => vrun a st' (u ++ v)) = ((vstep a st c).bind fun st' => vrun a st' u).bind fun st' => vrun a st' v
    rw [Option.bind_assoc]
    congr 1
    funext st'
    exact vrun_app a u v st'
/-- a text that may stand anywhere; of a level from 1 on a star may follow it -/
def Vld (a : List Nat) (lv : Nat) (u : List Nat) : Prop := ∀ d s, ∃ s', vrun a (d, s) u = some (d, s') ∧ (1 ≤ lv → s' = true)
section
variable {a : List Nat}
theorem Vld.one {lv : Nat} {u : List Nat} (h : ∀ d s, vrun a (d, s) u = some (d, true)) : Vld a lv u := fun d s => ⟨true, h d s, fun _ => rfl⟩
theorem Vld.any {lv : Nat} : Vld a lv [46] := Vld.one fun d s => by simp [vrun, vstep]
theorem Vld.letter {lv c : Nat} (h : c ∈ a) (hc : c ∉ [42, 43, 63, 40, 41, 124, 46]) : Vld a lv [c] := Vld.one fun d s => by
  simp only [List.mem_cons, List.not_mem_nil, or_false, not_or] at hc
  obtain ⟨h1, h2, h3, h4, h5, h6, h7⟩ := hc
  simp [vrun, vstep, h1, h2, h3, h4, h5, h6, h]
theorem Vld.star {lv c : Nat} {u : List Nat} (h : Vld a 1 u) (hc : c ∈ [42, 43, 63]) : Vld a lv (u ++ [c]) := Vld.one fun d s => by
  obtain ⟨s', h1, h2⟩ := h d s
  rw [vrun_app, h1, h2 (Nat.le_refl _)]
  show (vstep a (d, true) c).bind _ = _
  unfold vstep
  rw [if_pos hc]; rfl
theorem Vld.par {lv : Nat} {u : List Nat} (h : Vld a 0 u) : Vld a lv (40 :: (u ++ [41])) := Vld.one fun d s => by
  show (vstep a (d, s) 40).bind (fun st' => vrun a st' (u ++ [41])) = _
  have e : vstep a (d, s) 40 = some (d + 1, false) := by simp [vstep]
  rw [e]
  show vrun a (d + 1, false) (u ++ [41]) = _
  obtain ⟨s', h1, _⟩ := h (d + 1) false
  rw [vrun_app, h1]
  simp [vrun, vstep]
theorem Vld.low {lv : Nat} {u : List Nat} (h : Vld a lv u) : Vld a 0 u := fun d s => by
  obtain ⟨s', h1, _⟩ := h d s
  exact ⟨s', h1, fun z => absurd z (by decide)⟩
theorem Vld.up {lv lv' : Nat} {u : List Nat} (h : Vld a lv u) (hl : lv = 0 → lv' = 0) : Vld a lv' u := fun d s => by
  obtain ⟨s', h1, h2⟩ := h d s
  exact ⟨s', h1, fun z => h2 (by by_cases c : lv = 0; · have := hl c; omega
                                 · omega)⟩
theorem Vld.nil : Vld a 0 [] := fun d s => ⟨s, rfl, fun z => absurd z (by decide)⟩
theorem Vld.app {u v : List Nat} (h : Vld a 0 u) (h' : Vld a 0 v) : Vld a 0 (u ++ v) := fun d s => by
  obtain ⟨s1, e1, _⟩ := h d s
  obtain ⟨s2, e2, _⟩ := h' d s1
  exact ⟨s2, by rw [vrun_app, e1]; exact e2, fun z => absurd z (by decide)⟩
theorem Vld.bar : Vld a 0 [124] := fun d s => ⟨false, by simp [vrun, vstep], fun z => absurd z (by decide)⟩
/-- the texts one behind another, bars between them -/
def joinU (sep : List Nat) : List (List Nat) → List Nat
  | [] => []
  | [u] => u
  | u :: us => u ++ sep ++ joinU sep us
theorem Vld.join {sep : List Nat} (hs : Vld a 0 sep) : ∀ {us : List (List Nat)}, (∀ u ∈ us, Vld a 0 u) → Vld a 0 (joinU sep us)
  | [], _ => Vld.nil
  | [u], h => h u (by simp)
  | u :: v :: us, h => ((h u (by simp)).app hs).app (Vld.join hs (us := v :: us) fun x hx => h x (List.mem_cons_of_mem _ hx))
end
theorem Vld.scan {a u : List Nat} (h : Vld a 0 u) (hl : u.length ≤ 12) : ∃ s, scanF a Sc.start u = some s ∧ s.fs = [] := by
  obtain ⟨s', e, _⟩ := h 0 false
  obtain ⟨s, e1, e2⟩ := run_ok (s := Sc.start) SOk.start (by show 0 + u.length ≤ 12; omega) e
  exact ⟨s, e1, List.length_eq_zero_iff.mp e2⟩
end K87

set_option autoImplicit true
set_option Elab.async false
set_option linter.all false
set_option maxRecDepth 100000
set_option maxHeartbeats 4000000
/-! K87Both: the pattern X.*X. -/
namespace K87
open PySem L2 PySem.Spec PyProof.Rows
def bN : Net := ⟨[none, some 0, none, some 0], [[1], [2, 3], [2, 3], []], [3]⟩
def bothT (a : Str) : Option (Nat × List (Option Nat) × List (List Nat) × List Nat) := (scanF (cs a) Sc.start [(cs a).getD 0 0, 46, 42, (cs a).getD 0 0]).map fun s => (s.fs.length, s.net.marks, s.net.follow, s.net.ends)
theorem both_all : ∀ a ∈ AL, bothT a = some (0, bN.marks, bN.follow, bN.ends) := by
  intro a ha
  rcases List.mem_cons.mp ha with rfl | ha
  · rfl
  rcases List.mem_cons.mp ha with rfl | ha
  · rfl
  rcases List.mem_cons.mp ha with rfl | ha
  · rfl
  rcases List.mem_cons.mp ha with rfl | ha
  · rfl
  rcases List.mem_cons.mp ha with rfl | ha
  · rfl
  cases ha
theorem both_net {a : Str} (ha : a ∈ AL) : ∃ s, scanF (cs a) Sc.start [(cs a).getD 0 0, 46, 42, (cs a).getD 0 0] = some s ∧ s.fs = [] ∧ s.net = bN := by
  obtain ⟨s, h1, h2⟩ := Option.map_eq_some_iff.mp (both_all a ha)
  injection h2 with e1 h2
  injection h2 with e2 h2
  injection h2 with e3 e4
  refine ⟨s, h1, List.length_eq_zero_iff.mp e1, ?_⟩
  have : s.net = ⟨s.net.marks, s.net.follow, s.net.ends⟩ := rfl
  rw [this, e2, e3, e4]
/-- where the word r, read from its end, leads -/
def bSt : List Nat → List Nat
  | [] => [0]
  | [k] => if k = 0 then [1] else []
  | k :: x :: t => if (x :: t).getLast? = some 0 then (if k = 0 then [2, 3] else [2]) else []
theorem b_on : bN.onw [0] 0 = [1] ∧ bN.onw [0] 1 = [] ∧ bN.onw [1] 0 = [2, 3] ∧ bN.onw [1] 1 = [2] ∧ bN.onw [2, 3] 0 = [2, 3] ∧ bN.onw [2, 3] 1 = [2] ∧ bN.onw [2] 0 = [2, 3] ∧ bN.onw [2] 1 = [2] ∧ bN.onw [] 0 = [] ∧ bN.onw [] 1 = [] := by decide +kernel
theorem b_fold : ∀ r : List Nat, (∀ k ∈ r, k < 2) → r.reverse.foldl bN.onw [0] = bSt r
  | [], _ => rfl
  | k :: r, h => by
    obtain ⟨a1, a2, a3, a4, a5, a6, a7, a8, a9, a10⟩ := b_on
    have ih := b_fold r fun x hx => h x (List.mem_cons_of_mem _ hx)
    have hk := h k List.mem_cons_self
    rw [List.reverse_cons, List.foldl_append, ih]
    show bN.onw (bSt r) k = bSt (k :: r)
    have k01 : k = 0 ∨ k = 1 := by omega
    match r, h with
    | [], _ => rcases k01 with rfl | rfl <;> simp [bSt, a1, a2]
    | [x], h =>
      have hx := h x (by simp)
      have x01 : x = 0 ∨ x = 1 := by omega
      rcases k01 with rfl | rfl <;> rcases x01 with rfl | rfl <;> simp [bSt, a3, a4, a9, a10]
    | x :: y :: t, h =>
      have hx := h x (by simp)
      have x01 : x = 0 ∨ x = 1 := by omega
      have e : (x :: y :: t).getLast? = (y :: t).getLast? := by simp [List.getLast?_cons_cons]
      show bN.onw (if (y :: t).getLast? = some 0 then (if x = 0 then [2, 3] else [2]) else []) k = if (x :: y :: t).getLast? = some 0 then (if k = 0 then [2, 3] else [2]) else []
      rw [e]
      by_cases c : (y :: t).getLast? = some 0
      · rw [if_pos c, if_pos c]
        rcases k01 with rfl | rfl <;> rcases x01 with rfl | rfl <;> simp [a5, a6, a7, a8]
      · rw [if_neg c, if_neg c]
        rcases k01 with rfl | rfl <;> simp [a9, a10]
theorem b_desc (r : List Nat) (h : ∀ k ∈ r, k < 2) : bN.desc r.reverse = decide (2 ≤ r.length ∧ r.head? = some 0 ∧ r.getLast? = some 0) := by
  unfold Net.desc
  rw [b_fold r h]
  match r, h with
  | [], _ => rfl
  | [k], h =>
    have hk := h k (by simp)
    have k01 : k = 0 ∨ k = 1 := by omega
    rcases k01 with rfl | rfl <;> rfl
  | k :: x :: t, h =>
    have hk := h k (by simp)
    have k01 : k = 0 ∨ k = 1 := by omega
    have e : (k :: x :: t).getLast? = (x :: t).getLast? := by simp [List.getLast?_cons_cons]
    have b1 : bN.acc [2, 3] = true := by decide
    have b2 : bN.acc [2] = false := by decide
    have b3 : bN.acc [] = false := by decide
    have l2 : 2 ≤ (k :: x :: t).length := by simp
    show bN.acc (if (x :: t).getLast? = some 0 then (if k = 0 then [2, 3] else [2]) else []) = _
    rw [e]
    by_cases c : (x :: t).getLast? = some 0
    · rw [if_pos c]
      rcases k01 with rfl | rfl
      · rw [if_pos rfl, b1, decide_eq_true ⟨l2, rfl, c⟩]
      · rw [if_neg (by decide), b2, decide_eq_false]
        rintro ⟨_, z, _⟩
        simp at z
    · rw [if_neg c, b3, decide_eq_false]
      rintro ⟨_, _, z⟩
      exact c z
theorem b_rev (u : List Nat) (h : ∀ k ∈ u, k < 2) : bN.desc u.reverse = bN.desc u := by
  rw [b_desc u h]
  have h' : ∀ k ∈ u.reverse, k < 2 := fun k hk => h k (List.mem_reverse.mp hk)
  have := b_desc u.reverse h'
  rw [List.reverse_reverse] at this
  rw [this, List.length_reverse, List.head?_reverse, List.getLast?_reverse, decide_eq_decide]
  exact ⟨fun ⟨a, b, c⟩ => ⟨a, c, b⟩, fun ⟨a, b, c⟩ => ⟨a, c, b⟩⟩
end K87

set_option autoImplicit true
set_option Elab.async false
set_option linter.all false
set_option maxRecDepth 100000
set_option maxHeartbeats 4000000
set_option pp.deepTerms.threshold 6
/-! K87D28: trees in the heap; _law_text_of. -/
namespace K87
open PySem L2 PySem.Spec PyProof.Rows
def TrAt (a : Str) (Z : Hp) : Nat → V → Prop
  | 0, _ => False
  | n + 1, v => ∃ l, v = .ref l ∧ (Z l = some (.lst [.str (Str.ofString "any")]) ∨ (∃ c, c ∈ cs a ∧ Z l = some (.lst [.str (Str.ofString "letter"), .str ⟨#[c]⟩])) ∨
      (∃ c vt, c ∈ [42, 43, 63] ∧ Z l = some (.lst [.str (Str.ofString "star"), .str ⟨#[c]⟩, vt]) ∧ TrAt a Z n vt) ∨
      (∃ p vs, Z l = some (.lst [.str (Str.ofString "row"), .ref p]) ∧ Z p = some (.lst vs) ∧ vs.length ≤ 3 ∧ ∀ u ∈ vs, TrAt a Z n u) ∨
      (∃ p vs, Z l = some (.lst [.str (Str.ofString "or"), .ref p]) ∧ Z p = some (.lst vs) ∧ vs.length ≤ 3 ∧ ∀ u ∈ vs, TrAt a Z n u))
theorem TrAt.mono {a : Str} {Z Z' : Hp} (s : Same Z Z') : ∀ {n : Nat} {v : V}, TrAt a Z n v → TrAt a Z' n v
  | 0, _, h => h
  | n + 1, v, ⟨l, e, h⟩ => by
    refine ⟨l, e, ?_⟩
    rcases h with h | ⟨c, hc, h⟩ | ⟨c, vt, hc, h, ht⟩ | ⟨p, vs, h1, h2, h3, h4⟩ | ⟨p, vs, h1, h2, h3, h4⟩
    · exact .inl (s _ _ h)
    · exact .inr (.inl ⟨c, hc, s _ _ h⟩)
    · exact .inr (.inr (.inl ⟨c, vt, hc, s _ _ h, TrAt.mono s ht⟩))
    · exact .inr (.inr (.inr (.inl ⟨p, vs, s _ _ h1, s _ _ h2, h3, fun u hu => TrAt.mono s (h4 u hu)⟩)))
    · exact .inr (.inr (.inr (.inr ⟨p, vs, s _ _ h1, s _ _ h2, h3, fun u hu => TrAt.mono s (h4 u hu)⟩)))
theorem TrAt.head {a : Str} {Z : Hp} : ∀ {n : Nat} {v : V}, TrAt a Z n v → ∃ l x rest, v = .ref l ∧ Z l = some (.lst (.str x :: rest))
  | 0, _, h => h.elim
  | n + 1, v, ⟨l, e, h⟩ => by
    rcases h with h | ⟨c, hc, h⟩ | ⟨c, vt, hc, h, ht⟩ | ⟨p, vs, h1, h2, h3, h4⟩ | ⟨p, vs, h1, h2, h3, h4⟩
    · exact ⟨l, _, _, e, h⟩
    · exact ⟨l, _, _, e, h⟩
    · exact ⟨l, _, _, e, h⟩
    · exact ⟨l, _, _, e, h1⟩
    · exact ⟨l, _, _, e, h1⟩
def isTr (a : Str) (n : Nat) : Rep V := fun Z v x => v = x ∧ TrAt a Z n x
instance {a : Str} {n : Nat} : Mono (isTr a n) := ⟨fun s h => ⟨h.1, h.2.mono s⟩⟩
theorem paired_self {a : Str} {Z : Hp} {n : Nat} : ∀ {vs : List V}, (∀ u ∈ vs, TrAt a Z n u) → Paired (isTr a n Z) vs vs
  | [], _ => .nil
  | v :: vs, h => .cons ⟨rfl, h v List.mem_cons_self⟩ (paired_self fun u hu => h u (List.mem_cons_of_mem _ hu))
def Ln : Nat → Nat
  | 0 => 1
  | n + 1 => 3 * Ln n + 4
/-- the signs of a text -/
def ps (z : Str) : List Nat := z.cps.toList
theorem ps_app (x y : Str) : ps (x ++ y) = ps x ++ ps y := by
  show (x.cps ++ y.cps).toList = _
  simp [ps]
theorem ps_len (z : Str) : z.length = (ps z).length := by
  show z.cps.size = z.cps.toList.length
  simp
theorem ps_join (sep : Str) : ∀ ys : List Str, ps (Str.join sep ys) = joinU (ps sep) (ys.map ps)
  | [] => rfl
  | [x] => rfl
  | x :: y :: ys => by
    show ps (x ++ sep ++ Str.join sep (y :: ys)) = ps x ++ ps sep ++ joinU (ps sep) ((y :: ys).map ps)
    rw [ps_app, ps_app, ps_join sep (y :: ys)]
theorem txt_join (sep : Str) (ys : List Str) : ps (Txt.join sep ys) = joinU (ps sep) (ys.map ps) := by
  have := eq_of_beq (PyProof.Rows.join_plain_closes sep ys)
  rw [this, ps_join]
theorem joinU_len {sep : List Nat} {m : Nat} (hs : sep.length ≤ 1) : ∀ {us : List (List Nat)}, (∀ u ∈ us, u.length ≤ m) → us.length ≤ 3 → (joinU sep us).length ≤ 3 * m + 2
  | [], _, _ => Nat.zero_le _
  | [u], h, _ => by show u.length ≤ _; have := h u (by simp); omega
  | [u, v], h, _ => by
    show (u ++ sep ++ v).length ≤ _
    have := h u (by simp); have := h v (by simp)
    rw [List.length_append, List.length_append]; omega
  | [u, v, x], h, _ => by
    show (u ++ sep ++ (v ++ sep ++ x)).length ≤ _
    have := h u (by simp); have := h v (by simp); have := h x (by simp)
    simp only [List.length_append]; omega
  | u :: v :: x :: y :: us, _, hl => by simp only [List.length_cons] at hl; omega
section
local macro_rules | `(tactic| walk_at "nf") => `(tactic| try dsimp only [tSeq, tAsg, gName, tRet, tRetN, tDrop, tNext, tIfS, tTest, tB, tOp, tUn, tNil, tCons, tCB, tC, tAnd, tOr, tNot, tAndV, tOrV, tNotV, sDPut, sFld, sFldAug, tM0, tM1, tBM, tBM0, tMeth, tCall, sGPut, tGGet, tGNin, tDGet, tDNotIn, tDIn, tFld, tChain])
local macro_rules | `(tactic| walk_at "st") => `(tactic| try dsimp only [wipe, List.set_cons_zero, List.set_cons_succ])
local macro_rules | `(tactic| walk_at "ni") => `(tactic| try dsimp only [tSeq, tAsg, gName, tRet, tRetN, tDrop, tNext, tTest, tB, tOp, tUn, tNil, tCons, tCB, tC, tAnd, tOr, tNot, tAndV, tOrV, tNotV, sDPut, sFld, sFldAug, tM0, tM1, tBM, tBM0, tMeth, tCall, sGPut, tGGet, tGNin, tDGet, tDNotIn, tDIn, tFld, tChain])
variable {P : Program} {w : World} {K : PySem.W.Frag} {mg : Str → Option Value} {base : Heap}
def spTextOf (n : Nat) : Sp := fun vs H Q _ => ∃ (Z : Hp) (a : Str) (v : V) (lv : Nat), vs = [v, .int (lv : Int)] ∧ Same Z H ∧ a ∈ AL ∧ lv ≤ 2 ∧ TrAt a Z n v ∧
  ∀ z Z' H', Gr Z H Z' H' → (ps z).length ≤ Ln n → Vld (cs a) lv (ps z) → Q (.str z) H'
abbrev N__law_text_of : List Str := ["_law_tree_here", "_law_level", "_law_text", "_law_part"]
theorem sc__law_text_of : FnScope N__law_text_of ["_law_tree_here", "_law_level"] (defScope (top 62)) := ⟨rfl, rfl, rfl, by decide +kernel, rfl, by decide +kernel, by decide +kernel⟩
theorem Ln_le {n : Nat} (h : n ≤ 4) : Ln n ≤ 1000 := by
  match n, h with
  | 0, _ => decide
  | 1, _ => decide
  | 2, _ => decide
  | 3, _ => decide
  | 4, _ => decide
theorem lit_any : ps (Str.ofString ".") = [46] := by decide
theorem lit_lp : ps (Str.ofString "(") = [40] := by decide
theorem lit_rp : ps (Str.ofString ")") = [41] := by decide
theorem lit_bar : ps (Str.ofString "|") = [124] := by decide
theorem lit_no : ps (Str.ofString "") = [] := by decide
/-- ['(' + text + ')', text][..] -/
theorem pick {a : Str} {lv : Nat} {t : Str} {c : Bool} {m : Nat} (h0 : Vld (cs a) 0 (ps t)) (hc : c = true → Vld (cs a) lv (ps t)) (hl : (ps t).length + 2 ≤ m) :
    (ps (if c = true then t else Str.ofString "(" ++ t ++ Str.ofString ")")).length ≤ m ∧ Vld (cs a) lv (ps (if c = true then t else Str.ofString "(" ++ t ++ Str.ofString ")")) := by
  cases c with
  | true => exact ⟨by rw [if_pos rfl]; omega, by rw [if_pos rfl]; exact hc rfl⟩
  | false =>
    rw [if_neg (by decide), ps_app, ps_app, lit_lp, lit_rp]
    exact ⟨by simp only [List.length_append, List.length_singleton]; omega, by
      have := h0.par (lv := lv)
      simpa using this⟩
theorem sum_le {m : Nat} : ∀ {ys : List Str}, (∀ z ∈ ys, (ps z).length ≤ m) → (ys.map (·.length)).sum ≤ ys.length * m
  | [], _ => Nat.zero_le _
  | y :: ys, h => by
    have h1 := h y List.mem_cons_self
    have h2 := sum_le (ys := ys) fun z hz => h z (List.mem_cons_of_mem _ hz)
    rw [List.map_cons, List.sum_cons, List.length_cons, Nat.add_mul, ps_len]; omega
theorem ok_text_zero (T : Txt K mg) : FnOk P w K mg base CX0 0 T.d__law_text_of.f T.d__law_text_of.fd ["_law_tree_here", "_law_level"] (spTextOf 0) := by
  refine ⟨fun vs H Q E h => ?_, fun A outer s H args us vs Q E _ _ _ _ h => ?_⟩
  · obtain ⟨Z, a, v, lv, rfl, _⟩ := h
    rfl
  · obtain ⟨Z, a, v, lv, rfl, sub, ha, hlv, ht, kk⟩ := h
    exact ht.elim
theorem ok_text_succ (T : Txt K mg) {n : Nat} (hn : n < 4) (ih : FnOk P w K mg base CX0 n T.d__law_text_of.f T.d__law_text_of.fd ["_law_tree_here", "_law_level"] (spTextOf n)) :
    FnOk P w K mg base CX0 (n + 1) T.d__law_text_of.f T.d__law_text_of.fd ["_law_tree_here", "_law_level"] (spTextOf (n + 1)) := by
  refine T.d__law_text_of.fn.ok sc__law_text_of (fun vs H Q E h => ?_) (fun cdv A outer s H vs Q E hr h => ?_)
  · obtain ⟨Z, a, v, lv, rfl, _⟩ := h
    rfl
  · obtain ⟨Z, a, v, lv, rfl, sub, ha, hlv, ⟨l, rfl, ht⟩, kk⟩ := h
    refine ⟨_, pss_cons (ps_if (pt_cmpR op_eq (pe_ix (ix_listK K rfl) (pv 0) (pe_int) (fun _ _ => rfl)) (pe_str) (nomark _))
  (pss_one (ps_ret (pe_str)))
  (pss_nil))
  (pss_cons (ps_if (pt_cmpR op_eq (pe_ix (ix_listK K rfl) (pv 0) (pe_int) (fun _ _ => rfl)) (pe_str) (nomark _))
  (pss_one (ps_ret (pe_ix (ix_listK K rfl) (pv 0) (pe_int) (fun _ _ => rfl))))
  (pss_nil))
  (pss_cons (ps_if (pt_cmpR op_eq (pe_ix (ix_listK K rfl) (pv 0) (pe_int) (fun _ _ => rfl)) (pe_str) (nomark _))
  (pss_cons (ps_set (i := 2) sc__law_text_of.nd rfl (.inl rfl) (pe_op op_add_str (pe_call ih (hr.mono (by omega)) (by rfl) T.d__law_text_of.mg T.d__law_text_of.fn.kp T.d__law_text_of.b .nil pass0 (pa_cons (pe_ix (ix_listK K rfl) (pv 0) (pe_int) (fun _ _ => rfl)) (pa_cons (pe_op op_sub (pe_int) (pe_callTy call_int1 (by rfl) T.b_int (by decide +kernel) (pa_cons (pe_cmpR op_eq (pe_ix (ix_listK K rfl) (pe_ix (ix_listK K rfl) (pv 0) (pe_int) (fun _ _ => rfl)) (pe_int) (fun _ _ => rfl)) (pe_str) (nomark _)) pa_nil))) pa_nil))) (pe_ix (ix_listK K rfl) (pv 0) (pe_int) (fun _ _ => rfl))))
  (pss_one (ps_ret (pe_ix (ix_listK K rfl) (pe_lst (pa_cons (pe_op op_add_str (pe_op op_add_str (pe_str) (pv 2)) (pe_str)) (pa_cons (pv 2) pa_nil))) (pe_callTy call_int1 (by rfl) T.b_int (by decide +kernel) (pa_cons (pe_cmpR op_lt (pv 1) (pe_int) (nomark _)) pa_nil)) (fun _ _ => rfl)))))
  (pss_nil))
  (pss_cons (ps_if (pt_cmpR op_eq (pe_ix (ix_listK K rfl) (pv 0) (pe_int) (fun _ _ => rfl)) (pe_str) (nomark _))
  (pss_cons (ps_set (i := 2) sc__law_text_of.nd rfl (.inl rfl) (pe_joinK K rfl (pe_str) (pe_lc (own := [("_law_part", 3)]) rfl sc__law_text_of.nd (pi_listK K rfl (pe_ix (ix_listK K rfl) (pv 0) (pe_int) (fun _ _ => rfl))) (blkOk_by (N := N__law_text_of) (sc := defScope (top 62)) (by decide +kernel)) (fun _ _ _ _ _ => pg_name (i := 3) sc__law_text_of.nd rfl (.inl rfl) (.inr rfl)) (fun _ _ _ _ _ => pts_nil) (fun _ _ _ _ _ => pe_call ih (hr.mono (by omega)) (by rfl) T.d__law_text_of.mg T.d__law_text_of.fn.kp T.d__law_text_of.b .nil pass0 (pa_cons (pv 3) (pa_cons (pe_int) pa_nil))))))
  (pss_one (ps_ret (pe_ix (ix_listK K rfl) (pe_lst (pa_cons (pe_op op_add_str (pe_op op_add_str (pe_str) (pv 2)) (pe_str)) (pa_cons (pv 2) pa_nil))) (pe_callTy call_int1 (by rfl) T.b_int (by decide +kernel) (pa_cons (pe_cmpR op_eq (pv 1) (pe_int) (nomark _)) pa_nil)) (fun _ _ => rfl)))))
  (pss_nil))
  (pss_cons (ps_set (i := 2) sc__law_text_of.nd rfl (.inl rfl) (pe_joinK K rfl (pe_str) (pe_lc (own := [("_law_part", 3)]) rfl sc__law_text_of.nd (pi_listK K rfl (pe_ix (ix_listK K rfl) (pv 0) (pe_int) (fun _ _ => rfl))) (blkOk_by (N := N__law_text_of) (sc := defScope (top 62)) (by decide +kernel)) (fun _ _ _ _ _ => pg_name (i := 3) sc__law_text_of.nd rfl (.inl rfl) (.inr rfl)) (fun _ _ _ _ _ => pts_nil) (fun _ _ _ _ _ => pe_call ih (hr.mono (by omega)) (by rfl) T.d__law_text_of.mg T.d__law_text_of.fn.kp T.d__law_text_of.b .nil pass0 (pa_cons (pv 3) (pa_cons (pe_int) pa_nil))))))
  (pss_one (ps_ret (pe_ix (ix_listK K rfl) (pe_lst (pa_cons (pe_op op_add_str (pe_op op_add_str (pe_str) (pv 2)) (pe_str)) (pa_cons (pv 2) pa_nil))) (pe_callTy call_int1 (by rfl) T.b_int (by decide +kernel) (pa_cons (pe_and (pe_cmpR op_eq (pv 1) (pe_int) (nomark _)) (pe_one (pe_cmpR op_gt (pe_callB (call_len_seqK K rfl) (by rfl) T.b_len (by decide +kernel) (pa_cons (pe_ix (ix_listK K rfl) (pv 0) (pe_int) (fun _ _ => rfl)) pa_nil)) (pe_int) (nomark _)))) pa_nil)) (fun _ _ => rfl)))))))), ?_⟩
    have lnn := Ln_le (show n ≤ 4 by omega)
    have lnn1 : Ln (n + 1) = 3 * Ln n + 4 := rfl
    have app3 : ∀ t : Str, (ps t).length + 2 ≤ Ln (n + 1) → (Str.ofString "(").length + t.length ≤ sizeLine ∧ (Str.ofString "(" ++ t).length + (Str.ofString ")").length ≤ sizeLine := fun t h => by
      have e1 : (Str.ofString "(").length = 1 := by rw [ps_len, lit_lp]; rfl
      have e2 : (Str.ofString ")").length = 1 := by rw [ps_len, lit_rp]; rfl
      have e3 : (Str.ofString "(" ++ t).length = 1 + (ps t).length := by rw [ps_len, ps_app, lit_lp]; simp only [List.length_append, List.length_singleton]
      have h1000 := Ln_le (show n + 1 ≤ 4 by omega)
      refine ⟨?_, ?_⟩
      · rw [e1, ps_len]; exact Nat.le_trans (show _ ≤ 1001 by omega) (by decide)
      · rw [e3, e2]; exact Nat.le_trans (show _ ≤ 1002 by omega) (by decide)
    have fin0 : ∀ (b : Bool) (t : Str) Z1 H1 tl, Gr Z H Z1 H1 → Vld (cs a) 0 (ps t) → (b = true → Vld (cs a) lv (ps t)) → (ps t).length + 2 ≤ Ln (n + 1) → Z1 tl = some (.lst [.str (Str.ofString "(" ++ t ++ Str.ofString ")"), .str t]) → rIxL K (.ref tl) (.int (if b = true then 1 else 0)) H1 Q := fun b t Z1 H1 tl g hv0 hv hl htl => by
      obtain ⟨p1, p2⟩ := pick (c := b) hv0 hv hl
      have := kk _ Z1 H1 g p1 p2
      cases b with
      | true => exact x_ixm (i := 1) (g.zh _ _ htl) rfl this
      | false => exact x_ixm (i := 0) (g.zh _ _ htl) rfl this
    have fin1 : ∀ (t : Str) Z1 H1, Gr Z H Z1 H1 → Vld (cs a) 0 (ps t) → Vld (cs a) lv (ps t) → (ps t).length + 2 ≤ Ln (n + 1) →
        (tOp (rIxL K) (tLst (tCons (tOp (fun x y H Q => ∃ i j, x = .str i ∧ y = .str j ∧ i.length + j.length ≤ sizeLine ∧ Q (.str (i ++ j)) H) (tOp (fun x y H Q => ∃ i j, x = .str i ∧ y = .str j ∧ i.length + j.length ≤ sizeLine ∧ Q (.str (i ++ j)) H) (tC (.str "(")) (tVar 2)) (tC (.str ")"))) (tCons (tVar 2) tNil))) (tCB (fun xs H Q => (∃ i, xs = [.int i] ∧ Q (.int i) H) ∨ ∃ k, xs = [.bl k] ∧ Q (.int (if k = true then 1 else 0)) H) (tCons (tOp (rI0 fun i j => .bl (decide (i < j))) (tVar 1) (tC (.int 2))) tNil))) [some (.ref l), some (.int (lv : Int)), some (.str t), none] H1 Q := fun t Z1 H1 g hv0 hv hl => by
      obtain ⟨s1, s2⟩ := app3 t hl
      refine a_lst2 ?_
      walk_at "nf"
      refine ⟨_, rfl, _, _, rfl, rfl, s1, _, _, rfl, rfl, s2, _, rfl, x_lstZ g.zh (by show 2 ≤ 1000; decide) fun tl Z2 H2 g2 htl => ⟨_, rfl, _, _, rfl, rfl, .inr ⟨_, rfl, fin0 _ t Z2 H2 tl (g.trans g2) hv0 (fun _ => hv) hl htl⟩⟩⟩
    walk_at "nf"
    rcases ht with h | ⟨c, hc, h⟩ | ⟨c, vt, hc, h, ht⟩ | ⟨p, vs, h1, h2, h3, h4⟩ | ⟨p, vs, h1, h2, h3, h4⟩
    · refine ⟨_, rfl, x_ixm (i := 0) (sub _ _ h) rfl ⟨rfl, _, rfl, ifY rfl ?_⟩⟩
      exact kk _ Z H (Grow.refl sub) (by rw [lit_any, lnn1]; simp only [List.length_singleton]; omega) (by rw [lit_any]; exact Vld.any)
    · refine ⟨_, rfl, x_ixm (i := 0) (sub _ _ h) rfl ⟨rfl, _, rfl, ifN (by decide) ?_⟩⟩
      refine ⟨_, rfl, x_ixm (i := 0) (sub _ _ h) rfl ⟨rfl, _, rfl, ifY rfl ⟨_, rfl, x_ixm (i := 1) (sub _ _ h) rfl ?_⟩⟩⟩
      exact kk _ Z H (Grow.refl sub) (by rw [lnn1]; show 1 ≤ _; omega) (Vld.letter hc (al_signs a ha c hc))
    · -- star
      obtain ⟨l2, x2, rest2, e2, h2⟩ := ht.head
      refine ⟨_, rfl, x_ixm (i := 0) (sub _ _ h) rfl ⟨rfl, _, rfl, ifN (by decide) ?_⟩⟩
      refine ⟨_, rfl, x_ixm (i := 0) (sub _ _ h) rfl ⟨rfl, _, rfl, ifN (by decide) ?_⟩⟩
      refine ⟨_, rfl, x_ixm (i := 0) (sub _ _ h) rfl ⟨rfl, _, rfl, ifY rfl ?_⟩⟩
      refine ⟨_, rfl, x_ixm (i := 2) (sub _ _ h) rfl ⟨_, rfl, x_ixm (i := 2) (sub _ _ h) rfl ?_⟩⟩
      subst e2
      refine x_ixm (i := 0) (sub _ _ h2) rfl ⟨rfl, .inr ⟨_, rfl, _, _, rfl, rfl, ?_⟩⟩
      obtain ⟨lv', el, l1, l2'⟩ : ∃ lv' : Nat, (2 : Int) - (if decide (V.str x2 = V.str (Str.ofString "star")) = true then 1 else 0) = (lv' : Int) ∧ 1 ≤ lv' ∧ lv' ≤ 2 := by
        cases decide (V.str x2 = V.str (Str.ofString "star")) with
        | true => exact ⟨1, rfl, by decide, by decide⟩
        | false => exact ⟨2, rfl, by decide, by decide⟩
      refine ⟨Z, a, .ref l2, lv', by rw [← el]; rfl, sub, ha, l2', ht, fun z Z1 H1 g1 hzl hz => ?_⟩
      have hc1 : ps ⟨#[c]⟩ = [c] := rfl
      refine ⟨_, rfl, x_ixm (i := 1) (g1.zh _ _ (g1.z _ _ h)) rfl ⟨z, ⟨#[c]⟩, rfl, rfl, by rw [ps_len, ps_len, hc1]; show (ps z).length + 1 ≤ sizeLine; exact Nat.le_trans (show _ ≤ 1001 by omega) (by decide), ?_⟩⟩
      have hzu : Vld (cs a) 1 (ps z) := hz.up (fun e => by omega)
      have et : ps (z ++ ⟨#[c]⟩) = ps z ++ [c] := by rw [ps_app, hc1]
      exact fin1 _ Z1 H1 g1 (by rw [et]; exact hzu.star hc) (by rw [et]; exact hzu.star hc) (by rw [et, lnn1, List.length_append]; simp only [List.length_singleton]; omega)
    · -- row
      refine ⟨_, rfl, x_ixm (i := 0) (sub _ _ h1) rfl ⟨rfl, _, rfl, ifN (by decide) ?_⟩⟩
      refine ⟨_, rfl, x_ixm (i := 0) (sub _ _ h1) rfl ⟨rfl, _, rfl, ifN (by decide) ?_⟩⟩
      refine ⟨_, rfl, x_ixm (i := 0) (sub _ _ h1) rfl ⟨rfl, _, rfl, ifN (by decide) ?_⟩⟩
      refine ⟨_, rfl, x_ixm (i := 0) (sub _ _ h1) rfl ⟨rfl, _, rfl, ifY rfl ?_⟩⟩
      refine ⟨⟨_, rfl⟩, c_list ⟨_, rfl, x_ixm (i := 1) (sub _ _ h1) rfl ?_⟩⟩
      refine k_compL (M := Non) (I := fun _ => True) (p := isTr a n) (q := isS) (xs := vs) (fun i ys => ys.length = i ∧ ∀ z ∈ ys, (ps z).length ≤ Ln n ∧ Vld (cs a) 1 (ps z)) ⟨p, vs, rfl, h2, paired_self h4⟩ sub (by omega) (by decide) (fun _ z => z.elim) Side.no True.intro ⟨rfl, by simp⟩ (fun i x w Z1 H1 ys R R0 hx px g1 _ ⟨q1, q2⟩ hR _ => ?_) (fun v Z1 H1 ys g1 _ hv ⟨q1, q2⟩ => ?_)
      · obtain ⟨rfl, hx2⟩ := px
        refine a_yes (ifY rfl ⟨_, rfl, Z1, a, w, 1, rfl, g1.zh, ha, by decide, hx2, fun z Z2 H2 g2 hzl hz => hR _ z Z2 H2 g2 True.intro rfl ⟨by rw [List.length_append, q1]; rfl, fun y hy => ?_⟩⟩)
        rcases List.mem_append.mp hy with hy | hy
        · exact q2 y hy
        · rw [List.mem_singleton.mp hy]; exact ⟨hzl, hz⟩
      · obtain ⟨pa, rfl, hpa⟩ := isL_S.mp hv
        have hsum := sum_le fun z hz => (q2 z hz).1
        have e0 : (Str.ofString "").length = 0 := by rw [ps_len, lit_no]; rfl
        have ml : ys.length * Ln n ≤ 3 * 1000 := Nat.mul_le_mul (by omega) lnn
        refine ⟨_, pa, ys, rfl, rfl, .inl (SqL.of (g1.zh _ _ hpa)), by rw [e0, Nat.mul_zero]; omega, ?_⟩
        have et := txt_join (Str.ofString "") ys
        rw [lit_no] at et
        have hl : (ps (Txt.join (Str.ofString "") ys)).length + 2 ≤ Ln (n + 1) := by
          rw [et, lnn1]
          have := joinU_len (sep := []) (m := Ln n) (us := ys.map ps) (by decide) (fun u hu => by obtain ⟨z, hz, rfl⟩ := List.mem_map.mp hu; exact (q2 z hz).1) (by rw [List.length_map]; omega)
          omega
        have hv0 : Vld (cs a) 0 (ps (Txt.join (Str.ofString "") ys)) := by
          rw [et]
          exact Vld.join Vld.nil fun u hu => by obtain ⟨z, hz, rfl⟩ := List.mem_map.mp hu; exact (q2 z hz).2.low
        obtain ⟨s1, s2⟩ := app3 _ hl
        refine a_lst2 ?_
        walk_at "nf"
        refine ⟨_, rfl, _, _, rfl, rfl, s1, _, _, rfl, rfl, s2, _, rfl, x_lstZ g1.zh (by show 2 ≤ 1000; decide) fun tl Z2 H2 g2 htl => ⟨_, rfl, rfl, .inr ⟨_, rfl, fin0 _ _ Z2 H2 tl (g1.trans g2) hv0 (fun hb => ?_) hl htl⟩⟩⟩
        have : lv = 0 := by
          have := of_decide_eq_true hb
          injection this with this
          omega
        rw [this]; exact hv0
    · -- or
      refine ⟨_, rfl, x_ixm (i := 0) (sub _ _ h1) rfl ⟨rfl, _, rfl, ifN (by decide) ?_⟩⟩
      refine ⟨_, rfl, x_ixm (i := 0) (sub _ _ h1) rfl ⟨rfl, _, rfl, ifN (by decide) ?_⟩⟩
      refine ⟨_, rfl, x_ixm (i := 0) (sub _ _ h1) rfl ⟨rfl, _, rfl, ifN (by decide) ?_⟩⟩
      refine ⟨_, rfl, x_ixm (i := 0) (sub _ _ h1) rfl ⟨rfl, _, rfl, ifN (by decide) ?_⟩⟩
      refine ⟨⟨_, rfl⟩, c_list ⟨_, rfl, x_ixm (i := 1) (sub _ _ h1) rfl ?_⟩⟩
      refine k_compL (M := Non) (I := fun _ => True) (p := isTr a n) (q := isS) (xs := vs) (fun i ys => ys.length = i ∧ ∀ z ∈ ys, (ps z).length ≤ Ln n ∧ Vld (cs a) 0 (ps z)) ⟨p, vs, rfl, h2, paired_self h4⟩ sub (by omega) (by decide) (fun _ z => z.elim) Side.no True.intro ⟨rfl, by simp⟩ (fun i x w Z1 H1 ys R R0 hx px g1 _ ⟨q1, q2⟩ hR _ => ?_) (fun v Z1 H1 ys g1 _ hv ⟨q1, q2⟩ => ?_)
      · obtain ⟨rfl, hx2⟩ := px
        refine a_yes (ifY rfl ⟨_, rfl, Z1, a, w, 0, rfl, g1.zh, ha, by decide, hx2, fun z Z2 H2 g2 hzl hz => hR _ z Z2 H2 g2 True.intro rfl ⟨by rw [List.length_append, q1]; rfl, fun y hy => ?_⟩⟩)
        rcases List.mem_append.mp hy with hy | hy
        · exact q2 y hy
        · rw [List.mem_singleton.mp hy]; exact ⟨hzl, hz⟩
      · obtain ⟨pa, rfl, hpa⟩ := isL_S.mp hv
        have hsum := sum_le fun z hz => (q2 z hz).1
        have e0 : (Str.ofString "|").length = 1 := by rw [ps_len, lit_bar]; rfl
        have ml : ys.length * Ln n ≤ 3 * 1000 := Nat.mul_le_mul (by omega) lnn
        refine ⟨_, pa, ys, rfl, rfl, .inl (SqL.of (g1.zh _ _ hpa)), by rw [e0, Nat.mul_one]; omega, ?_⟩
        have et := txt_join (Str.ofString "|") ys
        rw [lit_bar] at et
        have hl : (ps (Txt.join (Str.ofString "|") ys)).length + 2 ≤ Ln (n + 1) := by
          rw [et, lnn1]
          have := joinU_len (sep := [124]) (m := Ln n) (us := ys.map ps) (by decide) (fun u hu => by obtain ⟨z, hz, rfl⟩ := List.mem_map.mp hu; exact (q2 z hz).1) (by rw [List.length_map]; omega)
          omega
        have hv0 : Vld (cs a) 0 (ps (Txt.join (Str.ofString "|") ys)) := by
          rw [et]
          exact Vld.join Vld.bar fun u hu => by obtain ⟨z, hz, rfl⟩ := List.mem_map.mp hu; exact (q2 z hz).2
        obtain ⟨s1, s2⟩ := app3 _ hl
        refine a_lst2 ?_
        walk_at "nf"
        refine ⟨_, rfl, _, _, rfl, rfl, s1, _, _, rfl, rfl, s2, _, rfl, x_lstZ g1.zh (by show 2 ≤ 1000; decide) fun tl Z2 H2 g2 htl => ⟨_, rfl, rfl, _, rfl, ?_⟩⟩
        by_cases h0 : lv = 0
        · refine ifY (by rw [h0]; rfl) ⟨_, rfl, x_ixm (i := 1) (g2.zh _ _ ((g1.z.trans g2.z) _ _ h1)) rfl ⟨p, vs, rfl, .inl (SqL.of (g2.zh _ _ ((g1.z.trans g2.z) _ _ h2))), ⟨_, _, rfl, rfl, .inr ⟨_, rfl, fin0 _ _ Z2 H2 tl (g1.trans g2) hv0 (fun _ => by rw [h0]; exact hv0) hl htl⟩⟩⟩⟩
        · exact ifN (decide_eq_false fun e => h0 (by injection e with e; omega)) (.inr ⟨false, rfl, fin0 false _ Z2 H2 tl (g1.trans g2) hv0 (fun z => nomatch z) hl htl⟩)
end
end K87

set_option autoImplicit true
set_option Elab.async false
set_option linter.all false
set_option maxRecDepth 100000
set_option maxHeartbeats 4000000
set_option pp.deepTerms.threshold 6
/-! K87D29: _law_tree. -/
namespace K87
open PySem L2 PySem.Spec PyProof.Rows
theorem k_ifV {tt : TT} {A B : TS} {D : Ends} {σ : L2.St} {H : Hp} (b : Bool) (hc : ∀ R : Bool → Hp → Prop, R b H → tt σ H R) (hA : b = true → A D σ H) (hB : b = false → B D σ H) : tIfS tt A B D σ H := by
  refine hc _ ?_
  cases b with
  | true => exact ifY rfl (hA rfl)
  | false => exact ifN rfl (hB rfl)
theorem isTr_all {a : Str} {Z : Hp} {n : Nat} : ∀ {vs ys : List V}, Paired (isTr a n Z) vs ys → vs.length = ys.length ∧ ∀ u ∈ vs, TrAt a Z n u
  | _, _, .nil => ⟨rfl, by simp⟩
  | _, _, .cons r t => by
    obtain ⟨h1, h2⟩ := isTr_all t
    refine ⟨by rw [List.length_cons, List.length_cons, h1], fun u hu => ?_⟩
    rcases List.mem_cons.mp hu with rfl | hu
    · rw [r.1]; exact r.2
    · exact h2 u hu
section
local macro_rules | `(tactic| walk_at "nf") => `(tactic| try dsimp only [tSeq, tAsg, gName, tRet, tRetN, tDrop, tNext, tIfS, tTest, tB, tOp, tUn, tNil, tCons, tCB, tC, tAnd, tOr, tNot, tAndV, tOrV, tNotV, sDPut, sFld, sFldAug, tM0, tM1, tBM, tBM0, tMeth, tCall, sGPut, tGGet, tGNin, tDGet, tDNotIn, tDIn, tFld, tChain])
local macro_rules | `(tactic| walk_at "st") => `(tactic| try dsimp only [wipe, List.set_cons_zero, List.set_cons_succ])
local macro_rules | `(tactic| walk_at "ni") => `(tactic| try dsimp only [tSeq, tAsg, gName, tRet, tRetN, tDrop, tNext, tTest, tB, tOp, tUn, tNil, tCons, tCB, tC, tAnd, tOr, tNot, tAndV, tOrV, tNotV, sDPut, sFld, sFldAug, tM0, tM1, tBM, tBM0, tMeth, tCall, sGPut, tGGet, tGNin, tDGet, tDNotIn, tDIn, tFld, tChain])
variable {P : Program} {w : World} {K : PySem.W.Frag} {mg : Str → Option Value} {base : Heap}
def spTree (m : Nat) : Sp := fun vs H Q _ => ∃ (Z : Hp) (box : Addr) (vr : V) (a : Str) (d : Nat), vs = [.ref box, .str a, .int (d : Int)] ∧ m = d + 1 ∧ Same Z H ∧ a ∈ AL ∧ Box Z vr box H ∧
  ∀ v Z' H', Grow (On box) Z H Z' H' → BoxI vr box H' → TrAt a Z' (d + 1) v → Q v H'
abbrev N__law_tree : List Str := ["_law_box", "_law_alphabet_here", "_law_depth", "_law_kind", "_law_parts", "_law_k"]
theorem sc__law_tree : FnScope N__law_tree ["_law_box", "_law_alphabet_here", "_law_depth"] (defScope (top 61)) := ⟨rfl, rfl, rfl, by decide +kernel, rfl, by decide +kernel, by decide +kernel⟩
theorem ok_tree_zero (T : Txt K mg) : FnOk P w K mg base CX0 1 T.d__law_tree.f T.d__law_tree.fd ["_law_box", "_law_alphabet_here", "_law_depth"] (spTree 0) := by
  refine ⟨fun vs H Q E h => ?_, fun A outer s H args us vs Q E _ _ _ _ h => ?_⟩
  · obtain ⟨Z, box, vr, a, d, rfl, e, _⟩ := h
    cases e
  · obtain ⟨Z, box, vr, a, d, rfl, e, _⟩ := h
    cases e
theorem ok_tree_succ (T : Txt K mg) {m : Nat} (hm : m < 4) (ih : FnOk P w K mg base CX0 (m + 1) T.d__law_tree.f T.d__law_tree.fd ["_law_box", "_law_alphabet_here", "_law_depth"] (spTree m)) :
    FnOk P w K mg base CX0 (m + 2) T.d__law_tree.f T.d__law_tree.fd ["_law_box", "_law_alphabet_here", "_law_depth"] (spTree (m + 1)) := by
  refine T.d__law_tree.fn.ok sc__law_tree (fun vs H Q E h => ?_) (fun cdv A outer s H vs Q E hr h => ?_)
  · obtain ⟨Z, box, vr, a, d, rfl, _⟩ := h
    rfl
  · obtain ⟨Z, box, vr, a, d, rfl, e, sub, ha, B, kk⟩ := h
    obtain rfl : m = d := by omega
    refine ⟨_, pss_cons (ps_set (i := 3) sc__law_tree.nd rfl (.inl rfl) (pe_call (ok__law_draw T) (hr.mono (by omega)) (by rfl) T.d__law_draw.mg T.d__law_draw.fn.kp T.d__law_draw.b .nil pass0 (pa_cons (pv 0) (pa_cons (pe_int) pa_nil))))
  (pss_cons (ps_if (PW.pt (pw_or (pt_cmpR op_eq (pv 2) (pe_int) (nomark _)) (pw_or1 (pt_cmpR op_lt (pv 3) (pe_int) (nomark _)))))
  (pss_cons (ps_if (pt_cmpR op_eq (pe_call (ok__law_draw T) (hr.mono (by omega)) (by rfl) T.d__law_draw.mg T.d__law_draw.fn.kp T.d__law_draw.b .nil pass0 (pa_cons (pv 0) (pa_cons (pe_int) pa_nil))) (pe_int) (nomark _))
  (pss_one (ps_ret (pe_lst (pa_cons (pe_str) pa_nil))))
  (pss_nil))
  (pss_one (ps_ret (pe_lst (pa_cons (pe_str) (pa_cons (pe_ix ix_str (pv 1) (pe_call (ok__law_draw T) (hr.mono (by omega)) (by rfl) T.d__law_draw.mg T.d__law_draw.fn.kp T.d__law_draw.b .nil pass0 (pa_cons (pv 0) (pa_cons (pe_callB call_len_str (by rfl) T.b_len (by decide +kernel) (pa_cons (pv 1) pa_nil)) pa_nil))) (fun _ _ => rfl)) pa_nil))))))
  (pss_nil))
  (pss_cons (ps_if (pt_cmpR op_lt (pv 3) (pe_int) (nomark _))
  (pss_one (ps_ret (pe_lst (pa_cons (pe_str) (pa_cons (pe_ix ix_str (pe_str) (pe_call (ok__law_draw T) (hr.mono (by omega)) (by rfl) T.d__law_draw.mg T.d__law_draw.fn.kp T.d__law_draw.b .nil pass0 (pa_cons (pv 0) (pa_cons (pe_int) pa_nil))) (fun _ _ => rfl)) (pa_cons (pe_call ih (hr.mono (by omega)) (by rfl) T.d__law_tree.mg T.d__law_tree.fn.kp T.d__law_tree.b .nil pass0 (pa_cons (pv 0) (pa_cons (pv 1) (pa_cons (pe_op op_sub (pv 2) (pe_int)) pa_nil)))) pa_nil))))))
  (pss_nil))
  (pss_cons (ps_setLc (i := 4) (own := [("_law_k", 5)]) rfl sc__law_tree.nd rfl rfl (sw_true rfl rfl rfl (by decide +kernel)) (pi_range1 (by rfl) T.b_range (pa_cons (pe_call (ok__law_draw T) (hr.mono (by omega)) (by rfl) T.d__law_draw.mg T.d__law_draw.fn.kp T.d__law_draw.b .nil pass0 (pa_cons (pv 0) (pa_cons (pe_int) pa_nil))) pa_nil)) (blkOk_by (N := N__law_tree) (sc := defScope (top 61)) (by decide +kernel)) (fun _ _ _ _ _ => pg_name (i := 5) sc__law_tree.nd rfl (.inl rfl) (.inr rfl)) (fun _ _ _ _ _ => pts_nil) (fun _ _ _ _ _ => pe_call ih (hr.mono (by omega)) (by rfl) T.d__law_tree.mg T.d__law_tree.fn.kp T.d__law_tree.b .nil pass0 (pa_cons (pv 0) (pa_cons (pv 1) (pa_cons (pe_op op_sub (pv 2) (pe_int)) pa_nil)))))
  (pss_cons (ps_if (pt_cmpR op_lt (pv 3) (pe_int) (nomark _))
  (pss_one (ps_ret (pe_lst (pa_cons (pe_str) (pa_cons (pv 4) pa_nil)))))
  (pss_nil))
  (pss_cons (ps_if (pt_cmpR op_eq (pe_callB (call_len_seqK K rfl) (by rfl) T.b_len (by decide +kernel) (pa_cons (pv 4) pa_nil)) (pe_int) (nomark _))
  (pss_one (ps_set (i := 4) sc__law_tree.nd rfl (.inl rfl) (pe_lst (pa_cons (pe_lst (pa_cons (pe_str) (pa_cons (pe_lst pa_nil) pa_nil))) pa_nil))))
  (pss_nil))
  (pss_one (ps_ret (pe_lst (pa_cons (pe_str) (pa_cons (pv 4) pa_nil)))))))))), ?_⟩
    have ha2 := (al_two a ha).2.1
    have ha3 := (al_two a ha).1
    walk_at "ni"
    refine ⟨_, rfl, Z, box, vr, 9, rfl, sub, B, by decide, fun kd H1 hkd g1 b1 => ?_⟩
    have B1 := B.go g1 b1
    walk_at "ni"
    refine k_ifV (decide (m = 0) || decide (kd < 3)) (fun R r => ?_) (fun hb => ?_) (fun hb => ?_)
    · refine ⟨_, rfl, rfl, _, rfl, ?_⟩
      by_cases h0 : m = 0
      · refine ifY (by rw [h0]; rfl) ?_
        rw [decide_eq_true h0] at r; exact r
      · refine ifN (decide_eq_false fun e => h0 (by injection e with e; omega)) ⟨_, rfl, _, _, rfl, rfl, _, rfl, ?_⟩
        rw [decide_eq_false h0, Bool.false_or] at r
        rw [show decide ((kd : Int) < 3) = decide (kd < 3) from by rw [decide_eq_decide]; omega]
        exact r
    · -- a leaf
      walk_at "nf"
      refine ⟨_, rfl, Z, box, vr, 4, rfl, g1.zh, B1, by decide, fun d2 H2 hd2 g2 b2 => ⟨rfl, _, rfl, ?_⟩⟩
      have B2 := B1.go g2 b2
      have g12 := g1.trans g2
      by_cases h2 : d2 = 0
      · refine ifY (by rw [h2]; rfl) (a_lst1 (t_C (x_lstZ g12.zh (by show 1 ≤ 1000; decide) fun t Z3 H3 g3 ht => ?_)))
        obtain ⟨at2, hb2⟩ := b2
        exact kk _ Z3 H3 (g12.trans (Gr.to g3)) ⟨at2, g3.keepH hb2⟩ ⟨t, rfl, .inl ht⟩
      · refine ifN (decide_eq_false fun e => h2 (by injection e with e; omega)) (a_lst2 (t_C ?_))
        walk_at "nf"
        refine ⟨_, rfl, _, rfl, _, rfl, a, rfl, by rw [ha2]; decide, ?_⟩
        rw [ha2]
        refine ⟨Z, box, vr, 2, rfl, g12.zh, B2, by decide, fun d3 H3 hd3 g3 b3 => ?_⟩
        have hg : (cs a)[d3]? = some ((cs a).getD d3 0) := get_of (by rw [ha3]; exact hd3)
        refine ⟨a, _, (cs a).getD d3 0, rfl, rfl, by rw [ha2]; decide, atI_nat hg, x_lstZ g3.zh (by show 2 ≤ 1000; decide) fun t Z4 H4 g4 ht => ?_⟩
        obtain ⟨at3, hb3⟩ := b3
        exact kk _ Z4 H4 ((g12.trans g3).trans (Gr.to g4)) ⟨at3, g4.keepH hb3⟩ ⟨t, rfl, .inr (.inl ⟨_, List.mem_of_getElem? hg, ht⟩)⟩
    · have hb' : m ≠ 0 ∧ ¬ kd < 3 := by
        rw [Bool.or_eq_false_iff] at hb
        exact ⟨of_decide_eq_false hb.1, of_decide_eq_false hb.2⟩
      obtain ⟨d, rfl⟩ : ∃ d, m = d + 1 := ⟨m - 1, by omega⟩
      have em : ((d + 1 : Nat) : Int) - 1 = (d : Int) := by omega
      walk_at "ni"
      refine k_ifV (decide (kd < 5)) (fun R r => ⟨_, rfl, _, _, rfl, rfl, _, rfl, by rw [show decide ((kd : Int) < 5) = decide (kd < 5) from by rw [decide_eq_decide]; omega]; exact r⟩) (fun hb5 => ?_) (fun hb5 => ?_)
      · -- a star
        walk_at "nf"
        refine a_lst3 (t_C ?_)
        walk_at "nf"
        refine ⟨_, rfl, Z, box, vr, 3, rfl, g1.zh, B1, by decide, fun d2 H2 hd2 g2 b2 => ?_⟩
        have B2 := B1.go g2 b2
        have hs : (Str.ofString "*+?").cps.toList = [42, 43, 63] := by decide
        obtain ⟨c, hc⟩ : ∃ c, ([42, 43, 63] : List Nat)[d2]? = some c := ⟨_, List.getElem?_eq_getElem (by exact hd2)⟩
        refine ⟨Str.ofString "*+?", _, c, rfl, rfl, by decide, atI_nat (by rw [hs]; exact hc), ?_⟩
        refine ⟨_, rfl, _, rfl, _, rfl, _, _, rfl, rfl, ?_⟩
        refine ⟨Z, box, vr, a, d, by rw [← em]; rfl, rfl, g2.zh, ha, B2, fun v Z3 H3 g3 b3 ht => ?_⟩
        refine x_lstZ g3.zh (by show 3 ≤ 1000; decide) fun t Z4 H4 g4 ht4 => ?_
        obtain ⟨at3, hb3⟩ := b3
        exact kk _ Z4 H4 (((g1.trans g2).trans g3).trans (Gr.to g4)) ⟨at3, g4.keepH hb3⟩ ⟨t, rfl, .inr (.inr (.inl ⟨c, v, List.mem_of_getElem? hc, ht4, ht.mono g4.z⟩))⟩
      · -- parts
        walk_at "ni"
        refine c_range ?_
        walk_at "ni"
        refine ⟨_, rfl, Z, box, vr, 4, rfl, g1.zh, B1, by decide, fun r H2 hr4 g2 b2 => ?_⟩
        have B2 := B1.go g2 b2
        have g12 := g1.trans g2
        refine k_compR (n := (r : Int)) (M := On box) (I := BoxI vr box) (q := isTr a (d + 1)) (fun i ys => ys.length = i) rfl g12.zh (by omega) (by omega) (by decide) B2.has BoxI.side b2 rfl (fun i Z3 H3 ys R R0 hi g3 b3 q1 hR _ => ?_) (fun v Z3 H3 ys g3 b3 hv q1 => ?_)
        · refine a_yes (ifY rfl ⟨_, rfl, _, rfl, _, rfl, _, _, rfl, rfl, ?_⟩)
          refine ⟨Z3, box, vr, a, d, by rw [← em]; rfl, rfl, g3.zh, ha, B2.go g3 b3, fun v Z4 H4 g4 b4 ht => hR v v Z4 H4 g4 b4 ⟨rfl, ht⟩ (by rw [List.length_append, q1]; rfl)⟩
        · have q1 : ys.length = r := q1
          obtain ⟨p, vs, rfl, hp, pr⟩ := hv
          obtain ⟨l1, l2⟩ := isTr_all pr
          have g13 := g12.trans g3
          obtain ⟨at3, hb3⟩ := b3
          walk_at "ni"
          walk_at "st"
          refine k_ifV (decide (kd < 7)) (fun R r => ⟨_, rfl, _, _, rfl, rfl, _, rfl, by rw [show decide ((kd : Int) < 7) = decide (kd < 7) from by rw [decide_eq_decide]; omega]; exact r⟩) (fun hb7 => ?_) (fun hb7 => ?_)
          · walk_at "nf"
            refine a_lst2 (t_C ⟨_, rfl, x_lstZ g13.zh (by show 2 ≤ 1000; decide) fun t Z4 H4 g4 ht4 => ?_⟩)
            exact kk _ Z4 H4 (g13.trans (Gr.to g4)) ⟨at3, g4.keepH hb3⟩ ⟨t, rfl, .inr (.inr (.inr (.inl ⟨p, vs, ht4, g4.z _ _ hp, by omega, fun u hu => (l2 u hu).mono g4.z⟩)))⟩
          · walk_at "ni"
            refine k_ifT (fun σ2 H4 => ∃ Z4 p vs e5, σ2 = [some (.ref box), some (.str a), some (.int ((d + 1 : Nat) : Int)), some (.int (kd : Int)), some (.ref p), e5] ∧ Grow (On box) Z H Z4 H4 ∧ BoxI vr box H4 ∧ Z4 p = some (.lst vs) ∧ vs.length ≤ 3 ∧ ∀ u ∈ vs, TrAt a Z4 (d + 1) u) (fun D' hD => ?_) (fun σ2 H4 ⟨Z4, p, vs, e5, eσ, g4, b4, hp4, hl4, hv4⟩ => ?_)
            · walk_at "nf"
              refine ⟨_, rfl, ⟨p, vs, rfl, .inl (SqL.of (g3.zh _ _ hp)), ⟨rfl, _, rfl, ?_⟩⟩⟩
              by_cases h0 : vs.length = 0
              · refine ifY (by rw [h0]; rfl) (a_lst1 (a_lst2 (t_C (a_lst0 (x_lstZ g13.zh (by decide) fun t4 Z4 H4 g4 h4 => x_lstZ g4.zh (by show 2 ≤ 1000; decide) fun t5 Z5 H5 g5 h5 => x_lstZ g5.zh (by show 1 ≤ 1000; decide) fun t6 Z6 H6 g6 h6 => ?_)))))
                have g46 := (g4.trans g5).trans g6
                refine hD _ _ ⟨Z6, t6, [.ref t5], _, rfl, g13.trans (Gr.to g46), ⟨at3, g46.keepH hb3⟩, h6, (by show 1 ≤ 3; decide), fun u hu => ?_⟩
                rw [List.mem_singleton.mp hu]
                exact ⟨t5, rfl, .inr (.inr (.inr (.inl ⟨t4, [], g6.z _ _ h5, g6.z _ _ (g5.z _ _ h4), by decide, by simp⟩)))⟩
              · refine ifN (decide_eq_false fun e => h0 (by injection e with e; omega)) (hD _ _ ⟨Z3, p, vs, _, rfl, g13, ⟨at3, hb3⟩, hp, by omega, l2⟩)
            · subst eσ
              walk_at "nf"
              refine a_lst2 (t_C ⟨_, rfl, x_lstZ g4.zh (by show 2 ≤ 1000; decide) fun t Z5 H5 g5 ht5 => ?_⟩)
              obtain ⟨at4, hb4⟩ := b4
              exact kk _ Z5 H5 (g4.trans (Gr.to g5)) ⟨at4, g5.keepH hb4⟩ ⟨t, rfl, .inr (.inr (.inr (.inr ⟨p, vs, ht5, g5.z _ _ hp4, hl4, fun u hu => (hv4 u hu).mono g5.z⟩)))⟩
end
end K87

set_option autoImplicit true
set_option Elab.async false
set_option linter.all false
set_option maxRecDepth 100000
set_option maxHeartbeats 4000000
set_option pp.deepTerms.threshold 6
/-! K87D30: _law_pattern. -/
namespace K87
open PySem L2 PySem.Spec PyProof.Rows
section
local macro_rules | `(tactic| walk_at "nf") => `(tactic| try dsimp only [tSeq, tAsg, gName, tRet, tRetN, tDrop, tNext, tIfS, tTest, tB, tOp, tUn, tNil, tCons, tCB, tC, tAnd, tOr, tNot, tAndV, tOrV, tNotV, sDPut, sFld, sFldAug, tM0, tM1, tBM, tBM0, tMeth, tCall, sGPut, tGGet, tGNin, tDGet, tDNotIn, tDIn, tFld, tChain])
local macro_rules | `(tactic| walk_at "st") => `(tactic| try dsimp only [wipe, List.set_cons_zero, List.set_cons_succ])
local macro_rules | `(tactic| walk_at "ni") => `(tactic| try dsimp only [tSeq, tAsg, gName, tRet, tRetN, tDrop, tNext, tTest, tB, tOp, tUn, tNil, tCons, tCB, tC, tAnd, tOr, tNot, tAndV, tOrV, tNotV, sDPut, sFld, sFldAug, tM0, tM1, tBM, tBM0, tMeth, tCall, sGPut, tGGet, tGNin, tDGet, tDNotIn, tDIn, tFld, tChain])
variable {P : Program} {w : World} {K : PySem.W.Frag} {mg : Str → Option Value} {base : Heap}
theorem ok__law_text_of (T : Txt K mg) : FnOk P w K mg base CX0 4 T.d__law_text_of.f T.d__law_text_of.fd ["_law_tree_here", "_law_level"] (spTextOf 4) :=
  ok_text_succ T (by decide) (ok_text_succ T (by decide) (ok_text_succ T (by decide) (ok_text_succ T (by decide) (ok_text_zero T))))
theorem ok__law_tree (T : Txt K mg) : FnOk P w K mg base CX0 5 T.d__law_tree.f T.d__law_tree.fd ["_law_box", "_law_alphabet_here", "_law_depth"] (spTree 4) :=
  ok_tree_succ T (by decide) (ok_tree_succ T (by decide) (ok_tree_succ T (by decide) (ok_tree_succ T (by decide) (ok_tree_zero T))))
def spPattern : Sp := fun vs H Q _ => ∃ (Z : Hp) (box : Addr) (vr : V) (a : Str), vs = [.ref box, .str a] ∧ Same Z H ∧ a ∈ AL ∧ Box Z vr box H ∧
  ∀ t v z Z' H', Grow (On box) Z H Z' H' → BoxI vr box H' → Z' t = some (.lst [v, .str z]) → (ps z).length ≤ 12 → Vld (cs a) 0 (ps z) → Q (.ref t) H'
abbrev N__law_pattern : List Str := ["_law_box", "_law_alphabet_here", "_law_turn", "_law_tree_here", "_law_text"]
theorem sc__law_pattern : FnScope N__law_pattern ["_law_box", "_law_alphabet_here"] (defScope (top 63)) := ⟨rfl, rfl, rfl, by decide +kernel, rfl, by decide +kernel, by decide +kernel⟩
theorem ok__law_pattern (T : Txt K mg) : FnOk P w K mg base CX0 6 T.d__law_pattern.f T.d__law_pattern.fd ["_law_box", "_law_alphabet_here"] spPattern := by
  refine T.d__law_pattern.fn.ok sc__law_pattern (fun vs H Q E h => ?_) (fun cdv A outer s H vs Q E hr h => ?_)
  · obtain ⟨Z, box, vr, a, rfl, _⟩ := h
    rfl
  · obtain ⟨Z, box, vr, a, rfl, sub, ha, B, kk⟩ := h
    refine ⟨_, pss_cons (ps_for PassesOwn.never rfl (pi_range1 (by rfl) T.b_range (pa_cons (pe_int) pa_nil)) (pg_name (i := 2) sc__law_pattern.nd rfl (.inl rfl) (.inl rfl))
  (pss_cons (ps_set (i := 3) sc__law_pattern.nd rfl (.inl rfl) (pe_call (ok__law_tree T) (hr.mono (by decide)) (by rfl) T.d__law_tree.mg T.d__law_tree.fn.kp T.d__law_tree.b .nil pass0 (pa_cons (pv 0) (pa_cons (pv 1) (pa_cons (pe_int) pa_nil)))))
  (pss_cons (ps_set (i := 4) sc__law_pattern.nd rfl (.inl rfl) (pe_call (ok__law_text_of T) (hr.mono (by decide)) (by rfl) T.d__law_text_of.mg T.d__law_text_of.fn.kp T.d__law_text_of.b .nil pass0 (pa_cons (pv 3) (pa_cons (pe_int) pa_nil))))
  (pss_one (ps_if (pt_cmpR op_le (pe_callB call_len_str (by rfl) T.b_len (by decide +kernel) (pa_cons (pv 4) pa_nil)) (pe_int) (nomark _))
  (pss_one (ps_ret (pe_lst (pa_cons (pv 3) (pa_cons (pv 4) pa_nil)))))
  (pss_nil))))))
  (pss_one (ps_ret (pe_lst (pa_cons (pe_lst (pa_cons (pe_str) (pa_cons (pe_ix ix_str (pv 1) (pe_int) (fun _ _ => rfl)) pa_nil))) (pa_cons (pe_ix ix_str (pv 1) (pe_int) (fun _ _ => rfl)) pa_nil))))), ?_⟩
    have ha2 := (al_two a ha).2.1
    have ha3 := (al_two a ha).1
    walk_at "nf"
    refine f_range (t_C ?_)
    refine k_forR (n := (4 : Int)) rfl (by decide) (by decide) (fun i σ Hc => ∃ Z1 e2 e3 e4, σ = [some (.ref box), some (.str a), e2, e3, e4] ∧ Grow (On box) Z H Z1 Hc ∧ BoxI vr box Hc) ⟨Z, none, none, none, rfl, Grow.refl sub, B.at_⟩ ?_ ?_
    · rintro i σ Hc hi ⟨Z1, e2, e3, e4, rfl, g, bi⟩
      walk_at "nf"
      refine ⟨_, rfl, _, rfl, Z1, box, vr, a, 3, rfl, rfl, g.zh, ha, B.go g bi, fun v Z2 H2 g2 b2 ht => ?_⟩
      have g12 := g.trans g2
      refine ⟨_, rfl, Z2, a, v, 0, rfl, g12.zh, ha, by decide, ht, fun z Z3 H3 g3 hzl hz => ?_⟩
      have hl4 := Ln_le (n := 4) (by decide)
      have g13 := g12.trans (Gr.to g3)
      obtain ⟨at2, hb2⟩ := b2
      refine ⟨_, rfl, z, rfl, by rw [ps_len]; exact Nat.le_trans (Nat.le_trans hzl hl4) (by decide), ⟨_, _, rfl, rfl, _, rfl, ?_⟩⟩
      by_cases h12 : (z.length : Int) ≤ 12
      · refine ifY (decide_eq_true h12) (a_lst2 ⟨_, rfl, _, rfl, x_lstZ g13.zh (by show 2 ≤ 1000; decide) fun t Z4 H4 g4 ht4 => ?_⟩)
        exact kk t v z Z4 H4 (g13.trans (Gr.to g4)) ⟨at2, g4.keepH (g3.keepH hb2)⟩ ht4 (by rw [ps_len] at h12; omega) hz
      · exact ifN (decide_eq_false h12) ⟨Z3, _, _, _, rfl, g13, ⟨at2, g3.keepH hb2⟩⟩
    · rintro σ Hc ⟨Z1, e2, e3, e4, rfl, g, bi⟩
      have hg : (cs a)[0]? = some ((cs a).getD 0 0) := get_of (by rw [ha3]; decide)
      have hm := al_get ha (show 0 < 2 by decide)
      have cell : ∀ {H : Hp} {Q : VK}, Q (.str ⟨#[(cs a).getD 0 0]⟩) H → rIxS (.str a) (.int 0) H Q := fun q => ⟨a, 0, _, rfl, rfl, by rw [ha2]; decide, atI_nat (j := 0) hg, q⟩
      walk_at "nf"
      refine a_lst2 (a_lst2 (t_C ?_))
      walk_at "nf"
      refine ⟨_, rfl, cell (x_lstZ g.zh (by show 2 ≤ 1000; decide) fun t2 Z2 H2 g2 h2 => ?_)⟩
      walk_at "nf"
      refine ⟨_, rfl, cell (x_lstZ g2.zh (by show 2 ≤ 1000; decide) fun t3 Z3 H3 g3 h3 => ?_)⟩
      have g23 := g2.trans g3
      obtain ⟨at2, hb2⟩ := bi
      exact kk t3 _ _ Z3 H3 (g.trans (Gr.to g23)) ⟨at2, g23.keepH hb2⟩ h3 (by show 1 ≤ 12; decide) (Vld.letter hm.1 (al_signs a ha _ hm.1))
end
end K87

set_option autoImplicit true
set_option Elab.async false
set_option linter.all false
set_option maxRecDepth 100000
set_option maxHeartbeats 4000000
set_option pp.deepTerms.threshold 6
/-! K87D31: law. -/
namespace K87
open PySem L2 PySem.Spec PyProof.Rows
/-- the words of one length among those up to 5 -/
theorem words_of (n : Nat) (h : n < 6) : ((wordsTo 5).filter fun u => decide (u.length = n)) = wordsTo.lastW n := by
  match n, h with
  | 0, _ => decide
  | 1, _ => decide
  | 2, _ => decide
  | 3, _ => decide
  | 4, _ => decide
  | 5, _ => decide
theorem lastW_words (n : Nat) (h : n < 6) : wordsTo.lastW n = words 2 n := by
  match n, h with
  | 0, _ => decide
  | 1, _ => decide
  | 2, _ => decide
  | 3, _ => decide
  | 4, _ => decide
  | 5, _ => decide
section
local macro_rules | `(tactic| walk_at "nf") => `(tactic| try dsimp only [tSeq, tAsg, gName, tRet, tRetN, tDrop, tNext, tIfS, tTest, tB, tOp, tUn, tNil, tCons, tCB, tC, tAnd, tOr, tNot, tAndV, tOrV, tNotV, sDPut, sFld, sFldAug, tM0, tM1, tBM, tBM0, tMeth, tCall, sGPut, tGGet, tGNin, tDGet, tDNotIn, tDIn, tFld, tChain])
local macro_rules | `(tactic| walk_at "st") => `(tactic| try dsimp only [wipe, List.set_cons_zero, List.set_cons_succ])
local macro_rules | `(tactic| walk_at "ni") => `(tactic| try dsimp only [tSeq, tAsg, gName, tRet, tRetN, tDrop, tNext, tTest, tB, tOp, tUn, tNil, tCons, tCB, tC, tAnd, tOr, tNot, tAndV, tOrV, tNotV, sDPut, sFld, sFldAug, tM0, tM1, tBM, tBM0, tMeth, tCall, sGPut, tGGet, tGNin, tDGet, tDNotIn, tDIn, tFld, tChain])
variable {P : Program} {w : World} {K : PySem.W.Frag} {mg : Str → Option Value} {base : Heap}
def spLaw (K : PySem.W.Frag) : Sp := fun vs H Q _ => ∃ (l : Addr) (ns : List Int), vs = [.ref l] ∧ SqL K H l (ns.map V.int) ∧ ∀ H', Q (.bl true) H'
abbrev N_law : List Str := ["_law_script", "_law_box", "_law_turn", "_law_ins", "_law_outs", "_law_machine_here", "_law_pattern_here", "_law_both", "_law_length", "_law_words_here", "_law_word", "_law_counts", "_law_told"]
theorem sc_law : FnScope N_law ["_law_script"] (defScope (top 65)) := ⟨rfl, rfl, rfl, by decide +kernel, rfl, by decide +kernel, by decide +kernel⟩
theorem ok_law (T : Txt K mg) : FnOk P w K mg base CX0 10 T.d_law.f T.d_law.fd ["_law_script"] (spLaw K) := by
  refine T.d_law.fn.ok sc_law (fun vs H Q E h => ?_) (fun cdv A outer s H vs Q E hr h => ?_)
  · obtain ⟨l, ns, rfl, _⟩ := h
    rfl
  · obtain ⟨l, ns, rfl, hS, kk⟩ := h
    refine ⟨_, pss_cons (ps_set (i := 1) sc_law.nd rfl (.inl rfl) (pe_lst (pa_cons (pe_call (ok__law_row T) (hr.mono (by decide)) (by rfl) T.d__law_row.mg T.d__law_row.fn.kp T.d__law_row.b .nil pass0 (pa_cons (pv 0) (pa_cons (pe_int) (pa_cons (pe_int) pa_nil)))) (pa_cons (pe_int) pa_nil))))
  (pss_cons (ps_for PassesOwn.never rfl (pi_range1 (by rfl) T.b_range (pa_cons (pe_int) pa_nil)) (pg_name (i := 2) sc_law.nd rfl (.inl rfl) (.inl rfl))
  (pss_cons (ps_set (i := 3) sc_law.nd rfl (.inl rfl) (pe_call (ok__law_alphabet T) (hr.mono (by decide)) (by rfl) T.d__law_alphabet.mg T.d__law_alphabet.fn.kp T.d__law_alphabet.b .nil pass0 (pa_cons (pv 1) (pa_cons (pe_int) pa_nil))))
  (pss_cons (ps_set (i := 4) sc_law.nd rfl (.inl rfl) (pe_call (ok__law_alphabet T) (hr.mono (by decide)) (by rfl) T.d__law_alphabet.mg T.d__law_alphabet.fn.kp T.d__law_alphabet.b .nil pass0 (pa_cons (pv 1) (pa_cons (pe_int) pa_nil))))
  (pss_cons (ps_set (i := 5) sc_law.nd rfl (.inr rfl) (pe_call (ok__law_made T) (hr.mono (by decide)) (by rfl) T.d__law_made.mg T.d__law_made.fn.kp T.d__law_made.b .nil pass0 (pa_cons (pe_call (ok__law_machine T) (hr.mono (by decide)) (by rfl) T.d__law_machine.mg T.d__law_machine.fn.kp T.d__law_machine.b .nil pass0 (pa_cons (pv 1) (pa_cons (pv 3) (pa_cons (pv 4) (pa_cons (pe_int) pa_nil))))) pa_nil)))
  (pss_cons (ps_set (i := 6) sc_law.nd rfl (.inr rfl) (pe_make T.c_Pattern.mkc (ok_Pattern___init__ T) (hr.mono (by decide)) (by rfl) T.c_Pattern.mg T.c_Pattern.init.b .nil pass0 (pa_cons (pv 4) (pa_cons (pe_ix (ix_listK K rfl) (pe_call (ok__law_pattern T) (hr.mono (by decide)) (by rfl) T.d__law_pattern.mg T.d__law_pattern.fn.kp T.d__law_pattern.b .nil pass0 (pa_cons (pv 1) (pa_cons (pv 4) pa_nil))) (pe_int) (fun _ _ => rfl)) pa_nil))))
  (pss_cons (ps_set (i := 7) sc_law.nd rfl (.inl rfl) (pe_make T.c_Pattern.mkc (ok_Pattern___init__ T) (hr.mono (by decide)) (by rfl) T.c_Pattern.mg T.c_Pattern.init.b .nil pass0 (pa_cons (pv 4) (pa_cons (pe_op op_add_str (pe_op op_add_str (pe_ix ix_str (pv 4) (pe_int) (fun _ _ => rfl)) (pe_str)) (pe_ix ix_str (pv 4) (pe_int) (fun _ _ => rfl))) pa_nil))))
  (pss_one (ps_for PassesOwn.never rfl (pi_range1 (by rfl) T.b_range (pa_cons (pe_int) pa_nil)) (pg_name (i := 8) sc_law.nd rfl (.inr rfl) (.inl rfl))
  (pss_cons (ps_setLc (i := 9) (own := [("_law_word", 10)]) rfl sc_law.nd rfl rfl (sw_true rfl rfl rfl (by decide +kernel)) (pi_listK K rfl (pe_call (ok__law_words T) (hr.mono (by decide)) (by rfl) T.d__law_words.mg T.d__law_words.fn.kp T.d__law_words.b .nil pass0 (pa_cons (pv 4) (pa_cons (pe_int) pa_nil)))) (blkOk_by (N := N_law) (sc := defScope (top 65)) (by decide +kernel)) (fun _ _ _ _ _ => pg_name (i := 10) sc_law.nd rfl (.inl rfl) (.inr rfl)) (fun _ _ _ _ _ => pts_one (pt_cmpR op_eq (pe_callB call_len_str (by rfl) T.b_len (by decide +kernel) (pa_cons (pv 10) pa_nil)) (pv 8) (nomark _))) (fun _ _ _ _ _ => pv 10))
  (pss_cons (ps_setLc (i := 11) (own := [("_law_word", 10)]) rfl sc_law.nd rfl rfl (sw_true rfl rfl rfl (by decide +kernel)) (pi_listK K rfl (pv 9)) (blkOk_by (N := N_law) (sc := defScope (top 65)) (by decide +kernel)) (fun _ _ _ _ _ => pg_name (i := 10) sc_law.nd rfl (.inl rfl) (.inr rfl)) (fun _ _ _ _ _ => pts_one (pt_val (pe_call (ok_matches T) (hr.mono (by decide)) (by rfl) T.d_matches.mg T.d_matches.fn.kp T.d_matches.b .nil pass0 (pa_cons (pv 6) (pa_cons (pv 10) pa_nil))))) (fun _ _ _ _ _ => pe_call (ok_count_preimages T) (hr.mono (by decide)) (by rfl) T.d_count_preimages.mg T.d_count_preimages.fn.kp T.d_count_preimages.b .nil pass0 (pa_cons (pv 5) (pa_cons (pv 10) pa_nil))))
  (pss_cons (ps_set (i := 12) sc_law.nd rfl (.inl rfl) (pe_call (ok_count_outputs T) (hr.mono (by decide)) (by rfl) T.d_count_outputs.mg T.d_count_outputs.fn.kp T.d_count_outputs.b .nil pass0 (pa_cons (pv 5) (pa_cons (pv 6) (pa_cons (pv 8) pa_nil)))))
  (pss_cons (ps_if (PW.pt (pw_or (pt_cmpR op_ne (pv 12) (pe_callB (cr_sumK K rfl rfl) (by rfl) T.b_sum (by decide +kernel) (pa_cons (pv 11) pa_nil)) (nomark _)) (pw_or1 (pt_cmpR op_ne (pe_call (ok_count_outputs T) (hr.mono (by decide)) (by rfl) T.d_count_outputs.mg T.d_count_outputs.fn.kp T.d_count_outputs.b .nil pass0 (pa_cons (pe_call (ok_least T) (hr.mono (by decide)) (by rfl) T.d_least.mg T.d_least.fn.kp T.d_least.b .nil pass0 (pa_cons (pv 5) pa_nil)) (pa_cons (pv 6) (pa_cons (pv 8) pa_nil)))) (pv 12) (nomark _)))))
  (pss_one (ps_ret (pe_bl)))
  (pss_nil))
  (pss_cons (ps_if (pt_cmpR op_ne (pe_callB (cr_sumK K rfl rfl) (by rfl) T.b_sum (by decide +kernel) (pa_cons (pe_lc (own := [("_law_word", 10)]) rfl sc_law.nd (pi_listK K rfl (pv 9)) (blkOk_by (N := N_law) (sc := defScope (top 65)) (by decide +kernel)) (fun _ _ _ _ _ => pg_name (i := 10) sc_law.nd rfl (.inl rfl) (.inr rfl)) (fun _ _ _ _ _ => pts_nil) (fun _ _ _ _ _ => pe_call (ok_count_preimages T) (hr.mono (by decide)) (by rfl) T.d_count_preimages.mg T.d_count_preimages.fn.kp T.d_count_preimages.b .nil pass0 (pa_cons (pv 5) (pa_cons (pv 10) pa_nil)))) pa_nil)) (pe_call (ok__law_power T) (hr.mono (by decide)) (by rfl) T.d__law_power.mg T.d__law_power.fn.kp T.d__law_power.b .nil pass0 (pa_cons (pe_int) (pa_cons (pv 8) pa_nil))) (nomark _))
  (pss_one (ps_ret (pe_bl)))
  (pss_nil))
  (pss_one (ps_if (pt_cmpR op_ne (pe_call (ok_count_outputs T) (hr.mono (by decide)) (by rfl) T.d_count_outputs.mg T.d_count_outputs.fn.kp T.d_count_outputs.b .nil pass0 (pa_cons (pv 5) (pa_cons (pv 7) (pa_cons (pv 8) pa_nil)))) (pe_call (ok_count_outputs T) (hr.mono (by decide)) (by rfl) T.d_count_outputs.mg T.d_count_outputs.fn.kp T.d_count_outputs.b .nil pass0 (pa_cons (pe_call (ok_mirror T) (hr.mono (by decide)) (by rfl) T.d_mirror.mg T.d_mirror.fn.kp T.d_mirror.b .nil pass0 (pa_cons (pv 5) pa_nil)) (pa_cons (pv 7) (pa_cons (pv 8) pa_nil)))) (nomark _))
  (pss_one (ps_ret (pe_bl)))
  (pss_nil))))))))))))))))
  (pss_one (ps_ret (pe_bl)))), ?_⟩
    walk_at "ni"
    -- box = [row, 0]
    have sub : Same (fun _ => none) H := fun _ _ e => by cases e
    refine a_lst2 ?_
    walk_at "ni"
    refine ⟨_, rfl, fun _ => none, l, ns, rfl, sub, hS, fun vr Z1 H1 us g1 hus => x_lstN (by show 2 ≤ 1000; decide) fun box hbox => ?_⟩
    have zb : Z1 box = none := g1.zh.free hbox
    have B0 : Box Z1 vr box (upd H1 box (.lst [vr, .int 0])) := ⟨zb, ⟨0, upd_same⟩, us, hus⟩
    have s0 : Same Z1 (upd H1 box (.lst [vr, .int 0])) := same_lock g1.zh zb
    walk_at "ni"
    refine f_range (t_C ?_)
    refine k_forR (n := (3 : Int)) rfl (by decide) (by decide) (fun i σ Hc => ∃ Z2 e2 e3 e4 e5 e6 e7 e8 e9 e10 e11 e12, σ = [some (.ref l), some (.ref box), e2, e3, e4, e5, e6, e7, e8, e9, e10, e11, e12] ∧ Same Z2 Hc ∧ Box Z2 vr box Hc) ⟨Z1, none, none, none, none, none, none, none, none, none, none, none, rfl, s0, B0⟩ ?_ ?_
    · rintro i σ Hc hi ⟨Z2, e2, e3, e4, e5, e6, e7, e8, e9, e10, e11, e12, rfl, s2, B2⟩
      walk_at "ni"
      -- ins, outs
      refine ⟨_, rfl, Z2, box, vr, rfl, s2, B2, fun a H3 ha g3 b3 => ?_⟩
      have B3 := B2.go g3 b3
      walk_at "st"
      refine ⟨_, rfl, Z2, box, vr, rfl, g3.zh, B3, fun b H4 hb g4 b4 => ?_⟩
      have B4 := B3.go g4 b4
      walk_at "st"
      -- the machine
      refine ⟨_, rfl, _, rfl, _, rfl, Z2, box, vr, a, b, rfl, g4.zh, B4, ha, hb, fun lm vl vq vt Z5 H5 M g5 b5 hlm hl hq ht mo => ?_⟩
      have B5 := B4.go g5 b5
      refine ⟨Z5, lm, a, b, vl, vq, vt, M, rfl, g5.zh, hlm, ha, hb, mo, hl, hq, ht, fun vm Z6 H6 g6 hM => ?_⟩
      have B6 := B5.gr g6
      walk_at "st"
      -- the pattern
      refine a_new2 ⟨_, rfl, ?_⟩
      walk_at "ni"
      refine ⟨_, rfl, _, rfl, Z6, box, vr, b, rfl, g6.zh, hb, B6, fun tp vtr z Z7 H7 g7 b7 htp hzl hz => ?_⟩
      have B7 := B6.go g7 b7
      obtain ⟨sp, hsp, hfs⟩ := hz.scan hzl
      refine x_ixm (i := 1) (g7.zh _ _ htp) rfl ?_
      refine x_newP g7.zh hb (by rw [ps_len]; omega) hsp hfs fun vp Z8 H8 g8 hP => ?_
      have B8 := B7.gr g8
      have okN := (SOk.start.scan hsp).net
      generalize sp.net = N at hP okN
      walk_at "st"
      -- both
      have hb2 := (al_two b hb).2.1
      have hb3 := (al_two b hb).1
      have hg : (cs b)[0]? = some ((cs b).getD 0 0) := get_of (by rw [hb3]; decide)
      have cell : ∀ {H : Hp} {Q : VK}, Q (.str ⟨#[(cs b).getD 0 0]⟩) H → rIxS (.str b) (.int 0) H Q := fun q => ⟨b, 0, _, rfl, rfl, by rw [hb2]; decide, atI_nat (j := 0) hg, q⟩
      have ept : ps (⟨#[(cs b).getD 0 0]⟩ ++ Str.ofString ".*" ++ ⟨#[(cs b).getD 0 0]⟩) = [(cs b).getD 0 0, 46, 42, (cs b).getD 0 0] := by
        rw [ps_app, ps_app]; rfl
      obtain ⟨sb, hsb, hfb, hnb⟩ := both_net hb
      refine a_new2 ⟨_, rfl, ?_⟩
      walk_at "ni"
      refine ⟨_, rfl, cell ?_⟩
      walk_at "ni"
      refine ⟨_, _, rfl, rfl, by show 1 + 2 ≤ sizeLine; decide, ?_⟩
      walk_at "ni"
      refine ⟨_, rfl, cell ?_⟩
      walk_at "ni"
      refine ⟨_, _, rfl, rfl, by show 3 + 1 ≤ sizeLine; decide, ?_⟩
      refine x_newP g8.zh hb (by rw [ps_len, ept]; show 4 ≤ 1000; decide) (s := sb) (by rw [← hsb]; exact congrArg _ ept) hfb fun vb Z9 H9 g9 hPb => ?_
      rw [hnb] at hPb
      have okb : bN.Ok := hnb ▸ (SOk.start.scan hsb).net
      have B9 := B8.gr g9
      have hM9 := Mono.mono ((g7.z.trans g8.z).trans g9.z) hM
      have hP9 := Mono.mono g9.z hP
      walk_at "st"
      refine f_range (t_C ?_)
      refine k_forR (n := (6 : Int)) rfl (by decide) (by decide) (fun n σ Hc => ∃ Z10 e8 e9 e10 e11 e12, σ = [some (.ref l), some (.ref box), some (.int (i : Int)), some (.str a), some (.str b), some vm, some vp, some vb, e8, e9, e10, e11, e12] ∧ Same Z9 Z10 ∧ Same Z10 Hc ∧ Box Z10 vr box Hc) ⟨Z9, _, _, _, _, _, rfl, Same.refl _, g9.zh, B9⟩ ?_ ?_
      · rintro n σ Hc hn ⟨Z10, e8, e9, e10, e11, e12, rfl, s9, sub10, B10⟩
        have hn6 : n < 6 := by omega
        have hM10 := Mono.mono s9 hM9
        have hP10 := Mono.mono s9 hP9
        have hb10 := Mono.mono s9 hPb
        have hw : ∀ u ∈ wordsTo.lastW n, u.length = n ∧ ∀ k ∈ u, k < 2 := (lastW_len n).2
        have hwl : (wordsTo.lastW n).length ≤ 1000 := by rw [(lastW_len n).1]; exact Nat.le_trans (Nat.pow_le_pow_right (by decide) (show n ≤ 5 by omega)) (by decide)
        have h63 : (wordsTo 5).length ≤ 1000 := by decide
        walk_at "ni"
        -- the words
        refine c_list ?_
        walk_at "ni"
        refine ⟨_, rfl, Z10, b, rfl, sub10, hb, fun vw Z11 H11 g11 hvw => ?_⟩
        refine k_filtL (K := K) (p := isW b) (q := isW b) (xs := wordsTo 5) (fun u => decide (u.length = n)) id hvw g11.zh (by omega) (by decide) (fun j u wu Z12 H12 R R0 hu pu g12 hR hR0 => ?_) (fun vh Z12 H12 g12 hvh => ?_)
        · obtain rfl : wu = .str (strOf b u) := pu
          have hul : u.length ≤ 5 := by
            have : ∀ u ∈ wordsTo 5, u.length ≤ 5 := by decide
            exact this u (List.mem_of_getElem? hu)
          refine ⟨_, rfl, _, rfl, by rw [strOf_len]; exact Nat.le_trans hul (by decide), _, rfl, rfl, _, rfl, ?_⟩
          rw [strOf_len]
          by_cases h : u.length = n
          · exact ifY (by rw [h]; exact decide_eq_true rfl) ⟨_, rfl, hR (decide_eq_true h) _ Z12 H12 (Grow.refl g12.zh) rfl⟩
          · exact ifN (decide_eq_false fun e => h (by injection e with e; omega)) (hR0 (decide_eq_false h) Z12 H12 (Grow.refl g12.zh))
        rw [List.map_id, words_of n hn6] at hvh
        have g1012 := g11.trans g12
        have hM12 := Mono.mono g1012.z hM10
        have hP12 := Mono.mono g1012.z hP10
        walk_at "st"
        -- the counts
        refine c_list ⟨_, rfl, k_filtL (K := K) (p := isW b) (q := isN) (xs := wordsTo.lastW n) N.desc (pre M) hvh g12.zh (by omega) (by decide) (fun j u wu Z13 H13 R R0 hu pu g13 hR hR0 => ?_) (fun vc Z13 H13 g13 hvc => ?_)⟩
        · obtain rfl : wu = .str (strOf b u) := pu
          obtain ⟨q1, q2⟩ := hw u (List.mem_of_getElem? hu)
          refine ⟨_, rfl, _, rfl, Z13, vp, b, N, u, rfl, g13.zh, Mono.mono g13.z hP12, okN, hb, q2, by omega, fun Z14 H14 g14 => ⟨_, rfl, ?_⟩⟩
          cases hd : N.desc u with
          | true => exact ifY rfl ⟨_, rfl, _, rfl, Z14, vm, a, b, M, u, rfl, g14.zh, Mono.mono (g13.z.trans g14.z) hM12, ha, hb, mo, q2, by omega, fun Z15 H15 g15 => hR hd _ Z15 H15 (g14.trans g15) rfl⟩
          | false => exact ifN rfl (hR0 hd Z14 H14 g14)
        have e1 : (((wordsTo.lastW n).filter N.desc).map (pre M)).sum = cnt M N.desc n := by
          rw [lastW_words n hn6]
          exact law_one mo.ok N.desc n
        have hM13 := Mono.mono g13.z hM12
        have hP13 := Mono.mono g13.z hP12
        have hb13 := Mono.mono (g1012.z.trans g13.z) hb10
        have hvh13 := Mono.mono g13.z hvh
        walk_at "st"
        -- told
        refine ⟨_, rfl, _, rfl, _, rfl, Z13, vm, vp, n, a, b, M, N, rfl, g13.zh, hM13, hP13, ha, hb, mo, okN, by omega, fun Z14 H14 g14 => ?_⟩
        walk_at "st"
        walk_at "nf"
        refine ⟨_, rfl, _, rfl, x_sum (Mono.mono g14.z hvc) g14.zh ⟨rfl, false, ?_, ifN rfl ?_⟩⟩
        · rw [e1]; simp
        refine ⟨_, rfl, Z14, vm, a, b, M, rfl, g14.zh, Mono.mono g14.z hM13, ha, hb, mo, fun vl2 Z15 H15 M' g15 hM' mo' hout => ?_⟩
        refine ⟨_, rfl, _, rfl, Z15, vl2, vp, n, a, b, M', N, rfl, g15.zh, hM', Mono.mono (g14.z.trans g15.z) hP13, ha, hb, mo', okN, by omega, fun Z16 H16 g16 => ?_⟩
        refine ⟨_, rfl, rfl, false, ?_, ifN rfl ?_⟩
        · rw [cnt_mach hout]; simp
        have g1316 := (g14.trans g15).trans g16
        have hM16 := Mono.mono g1316.z hM13
        have hb16 := Mono.mono g1316.z hb13
        -- the powers
        refine c_list ⟨_, rfl, k_mapL (K := K) (p := isW b) (q := isN) (xs := wordsTo.lastW n) (pre M) (Mono.mono g1316.z hvh13) g16.zh (by omega) (by decide) (fun j u wu Z17 H17 R hu pu g17 hR => ?_) (fun vs2 Z17 H17 g17 hvs => ?_)⟩
        · obtain rfl : wu = .str (strOf b u) := pu
          obtain ⟨q1, q2⟩ := hw u (List.mem_of_getElem? hu)
          exact ⟨_, rfl, _, rfl, Z17, vm, a, b, M, u, rfl, g17.zh, Mono.mono g17.z hM16, ha, hb, mo, q2, by omega, fun Z18 H18 g18 => hR _ Z18 H18 g18 rfl⟩
        have e2 : ((wordsTo.lastW n).map (pre M)).sum = 2 ^ n := by
          rw [lastW_words n hn6]
          exact law_three mo.ok n
        refine x_sum hvs g17.zh ?_
        refine ⟨_, rfl, n, rfl, by omega, ⟨rfl, false, ?_, ifN rfl ?_⟩⟩
        · rw [e2]; simp
        -- the mirror
        have hM17 := Mono.mono g17.z hM16
        have hb17 := Mono.mono g17.z hb16
        refine ⟨_, rfl, _, rfl, _, rfl, Z17, vm, vb, n, a, b, M, bN, rfl, g17.zh, hM17, hb17, ha, hb, mo, okb, by omega, fun Z18 H18 g18 => ?_⟩
        refine ⟨_, rfl, Z18, vm, a, b, M, rfl, g18.zh, Mono.mono g18.z hM17, ha, hb, mo, fun vmi Z19 H19 g19 hmi => ?_⟩
        refine ⟨_, rfl, _, rfl, Z19, vmi, vb, n, a, b, M.mir, bN, rfl, g19.zh, hmi, Mono.mono (g18.z.trans g19.z) hb17, ha, hb, mo.mir, okb, by omega, fun Z20 H20 g20 => ?_⟩
        refine ⟨rfl, false, ?_, ifN rfl ?_⟩
        · rw [law_four mo.ok b_rev]; simp
        have gall := (g1012.trans g13).trans (g1316.trans ((g17.trans g18).trans (g19.trans g20)))
        exact ⟨Z20, _, _, _, _, _, rfl, s9.trans gall.z, g20.zh, B10.gr gall⟩
      · rintro σ Hc ⟨Z10, e8, e9, e10, e11, e12, rfl, s9, sub10, B10⟩
        exact ⟨Z10, _, _, _, _, _, _, _, _, _, _, _, rfl, sub10, B10⟩
    · rintro σ Hc ⟨Z2, e2, e3, e4, e5, e6, e7, e8, e9, e10, e11, e12, rfl, s2, B2⟩
      exact kk Hc
end
end K87

set_option autoImplicit true
set_option Elab.async false
set_option linter.all false
set_option maxRecDepth 100000
set_option maxHeartbeats 4000000
/-! K87End: what the top has written, as facts that k_is finds; the walk; the head. -/
namespace K87
open PySem L2 PySem.Spec PyProof.Rows
theorem all_mk {l : PySem.W.OpenLaw} {w : World} {K : PySem.W.Frag} {h : Heap} {mg : Str → Option Value} {fa : Addr} (X : K.In h) (G : h.Ns mainGlobals mg) (hfa : mg "law" = some (.ref fa))
    {f1 : Addr} {od1 an1 : Option Addr} {sl1 : Array (Option Value)} {oc1 kV1 dc1 pm1 cd1 ct1 : Value}
    {f2 : Addr} {od2 an2 : Option Addr} {sl2 : Array (Option Value)} {oc2 kV2 dc2 pm2 cd2 ct2 : Value}
    {f3 : Addr} {od3 an3 : Option Addr} {sl3 : Array (Option Value)} {oc3 kV3 dc3 pm3 cd3 ct3 : Value}
    {f4 : Addr} {od4 an4 : Option Addr} {sl4 : Array (Option Value)} {oc4 kV4 dc4 pm4 cd4 ct4 : Value}
    {f5 : Addr} {od5 an5 : Option Addr} {sl5 : Array (Option Value)} {oc5 kV5 dc5 pm5 cd5 ct5 : Value}
    {f6 : Addr} {od6 an6 : Option Addr} {sl6 : Array (Option Value)} {oc6 kV6 dc6 pm6 cd6 ct6 : Value}
    {f7 : Addr} {od7 an7 : Option Addr} {sl7 : Array (Option Value)} {oc7 kV7 dc7 pm7 cd7 ct7 : Value}
    {f8 : Addr} {od8 an8 : Option Addr} {sl8 : Array (Option Value)} {oc8 kV8 dc8 pm8 cd8 ct8 : Value}
    {f9 : Addr} {od9 an9 : Option Addr} {sl9 : Array (Option Value)} {oc9 kV9 dc9 pm9 cd9 ct9 : Value}
    {f10 : Addr} {od10 an10 : Option Addr} {sl10 : Array (Option Value)} {oc10 kV10 dc10 pm10 cd10 ct10 : Value}
    {f11 : Addr} {od11 an11 : Option Addr} {sl11 : Array (Option Value)} {oc11 kV11 dc11 pm11 cd11 ct11 : Value}
    {f12 : Addr} {od12 an12 : Option Addr} {sl12 : Array (Option Value)} {oc12 kV12 dc12 pm12 cd12 ct12 : Value}
    {f13 : Addr} {od13 an13 : Option Addr} {sl13 : Array (Option Value)} {oc13 kV13 dc13 pm13 cd13 ct13 : Value}
    {f14 : Addr} {od14 an14 : Option Addr} {sl14 : Array (Option Value)} {oc14 kV14 dc14 pm14 cd14 ct14 : Value}
    {f15 : Addr} {od15 an15 : Option Addr} {sl15 : Array (Option Value)} {oc15 kV15 dc15 pm15 cd15 ct15 : Value}
    {f16 : Addr} {od16 an16 : Option Addr} {sl16 : Array (Option Value)} {oc16 kV16 dc16 pm16 cd16 ct16 : Value}
    {f17 : Addr} {od17 an17 : Option Addr} {sl17 : Array (Option Value)} {oc17 kV17 dc17 pm17 cd17 ct17 : Value}
    {f18 : Addr} {od18 an18 : Option Addr} {sl18 : Array (Option Value)} {oc18 kV18 dc18 pm18 cd18 ct18 : Value}
    {f19 : Addr} {od19 an19 : Option Addr} {sl19 : Array (Option Value)} {oc19 kV19 dc19 pm19 cd19 ct19 : Value}
    {f20 : Addr} {od20 an20 : Option Addr} {sl20 : Array (Option Value)} {oc20 kV20 dc20 pm20 cd20 ct20 : Value}
    {f21 : Addr} {od21 an21 : Option Addr} {sl21 : Array (Option Value)} {oc21 kV21 dc21 pm21 cd21 ct21 : Value}
    {f22 : Addr} {od22 an22 : Option Addr} {sl22 : Array (Option Value)} {oc22 kV22 dc22 pm22 cd22 ct22 : Value}
    {f23 : Addr} {od23 an23 : Option Addr} {sl23 : Array (Option Value)} {oc23 kV23 dc23 pm23 cd23 ct23 : Value}
    {f24 : Addr} {od24 an24 : Option Addr} {sl24 : Array (Option Value)} {oc24 kV24 dc24 pm24 cd24 ct24 : Value}
    {f25 : Addr} {od25 an25 : Option Addr} {sl25 : Array (Option Value)} {oc25 kV25 dc25 pm25 cd25 ct25 : Value}
    {f26 : Addr} {od26 an26 : Option Addr} {sl26 : Array (Option Value)} {oc26 kV26 dc26 pm26 cd26 ct26 : Value}
    {f27 : Addr} {od27 an27 : Option Addr} {sl27 : Array (Option Value)} {oc27 kV27 dc27 pm27 cd27 ct27 : Value}
    {f28 : Addr} {od28 an28 : Option Addr} {sl28 : Array (Option Value)} {oc28 kV28 dc28 pm28 cd28 ct28 : Value}
    {f29 : Addr} {od29 an29 : Option Addr} {sl29 : Array (Option Value)} {oc29 kV29 dc29 pm29 cd29 ct29 : Value}
    {f30 : Addr} {od30 an30 : Option Addr} {sl30 : Array (Option Value)} {oc30 kV30 dc30 pm30 cd30 ct30 : Value}
    {f31 : Addr} {od31 an31 : Option Addr} {sl31 : Array (Option Value)} {oc31 kV31 dc31 pm31 cd31 ct31 : Value}
    {f32 : Addr} {od32 an32 : Option Addr} {sl32 : Array (Option Value)} {oc32 kV32 dc32 pm32 cd32 ct32 : Value}
    {f33 : Addr} {od33 an33 : Option Addr} {sl33 : Array (Option Value)} {oc33 kV33 dc33 pm33 cd33 ct33 : Value}
    {f34 : Addr} {od34 an34 : Option Addr} {sl34 : Array (Option Value)} {oc34 kV34 dc34 pm34 cd34 ct34 : Value}
    {f35 : Addr} {od35 an35 : Option Addr} {sl35 : Array (Option Value)} {oc35 kV35 dc35 pm35 cd35 ct35 : Value}
    {f36 : Addr} {od36 an36 : Option Addr} {sl36 : Array (Option Value)} {oc36 kV36 dc36 pm36 cd36 ct36 : Value}
    {f37 : Addr} {od37 an37 : Option Addr} {sl37 : Array (Option Value)} {oc37 kV37 dc37 pm37 cd37 ct37 : Value}
    {f38 : Addr} {od38 an38 : Option Addr} {sl38 : Array (Option Value)} {oc38 kV38 dc38 pm38 cd38 ct38 : Value}
    {f39 : Addr} {od39 an39 : Option Addr} {sl39 : Array (Option Value)} {oc39 kV39 dc39 pm39 cd39 ct39 : Value}
    {f40 : Addr} {od40 an40 : Option Addr} {sl40 : Array (Option Value)} {oc40 kV40 dc40 pm40 cd40 ct40 : Value}
    {f41 : Addr} {od41 an41 : Option Addr} {sl41 : Array (Option Value)} {oc41 kV41 dc41 pm41 cd41 ct41 : Value}
    {CAutomaton : Addr}
    {f42 : Addr} {od42 an42 : Option Addr} {sl42 : Array (Option Value)} {oc42 kV42 dc42 pm42 cd42 ct42 : Value}
    {CNetwork : Addr}
    {f43 : Addr} {od43 an43 : Option Addr} {sl43 : Array (Option Value)} {oc43 kV43 dc43 pm43 cd43 ct43 : Value}
    {CPart : Addr}
    {f44 : Addr} {od44 an44 : Option Addr} {sl44 : Array (Option Value)} {oc44 kV44 dc44 pm44 cd44 ct44 : Value}
    {CScanner : Addr}
    {f45 : Addr} {od45 an45 : Option Addr} {sl45 : Array (Option Value)} {oc45 kV45 dc45 pm45 cd45 ct45 : Value}
    {CPattern : Addr}
    {f46 : Addr} {od46 an46 : Option Addr} {sl46 : Array (Option Value)} {oc46 kV46 dc46 pm46 cd46 ct46 : Value}
    {CMachine : Addr}
    {f47 : Addr} {od47 an47 : Option Addr} {sl47 : Array (Option Value)} {oc47 kV47 dc47 pm47 cd47 ct47 : Value}
    {f48 : Addr} {od48 an48 : Option Addr} {sl48 : Array (Option Value)} {oc48 kV48 dc48 pm48 cd48 ct48 : Value}
    {f49 : Addr} {od49 an49 : Option Addr} {sl49 : Array (Option Value)} {oc49 kV49 dc49 pm49 cd49 ct49 : Value}
    {f50 : Addr} {od50 an50 : Option Addr} {sl50 : Array (Option Value)} {oc50 kV50 dc50 pm50 cd50 ct50 : Value}
    {f51 : Addr} {od51 an51 : Option Addr} {sl51 : Array (Option Value)} {oc51 kV51 dc51 pm51 cd51 ct51 : Value}
    {f52 : Addr} {od52 an52 : Option Addr} {sl52 : Array (Option Value)} {oc52 kV52 dc52 pm52 cd52 ct52 : Value}
    {f53 : Addr} {od53 an53 : Option Addr} {sl53 : Array (Option Value)} {oc53 kV53 dc53 pm53 cd53 ct53 : Value}
    {f54 : Addr} {od54 an54 : Option Addr} {sl54 : Array (Option Value)} {oc54 kV54 dc54 pm54 cd54 ct54 : Value}
    {f55 : Addr} {od55 an55 : Option Addr} {sl55 : Array (Option Value)} {oc55 kV55 dc55 pm55 cd55 ct55 : Value}
    {f56 : Addr} {od56 an56 : Option Addr} {sl56 : Array (Option Value)} {oc56 kV56 dc56 pm56 cd56 ct56 : Value}
    {f57 : Addr} {od57 an57 : Option Addr} {sl57 : Array (Option Value)} {oc57 kV57 dc57 pm57 cd57 ct57 : Value}
    {t_MOST_SIGNS : Tok}
    {t_STARS : Tok}
    {t_LETTERS : Tok}
    {t_MOST_LETTERS : Tok}
    {t_MOST_STATES : Tok}
    (a1 : PySem.W.nsIn K mainGlobals "reached_behind" = some (some (.ref f1)))
    (l1 : K.lookup f1 = some ⟨oc1, od1, .func (PySem.W.fnOf "reached_behind" "reached_behind" (defArgs (top 1)) (defBody (top 1)) (defScope (top 1)) .none kV1 dc1 pm1 an1 cd1 ct1), sl1⟩)
    (c1 : PySem.W.codeIn K cd1 "reached_behind" = true)
    (k1 : PySem.W.keepIn K (.ref f1) = true)
    (a2 : PySem.W.nsIn K mainGlobals "reached_in_front" = some (some (.ref f2)))
    (l2 : K.lookup f2 = some ⟨oc2, od2, .func (PySem.W.fnOf "reached_in_front" "reached_in_front" (defArgs (top 2)) (defBody (top 2)) (defScope (top 2)) .none kV2 dc2 pm2 an2 cd2 ct2), sl2⟩)
    (c2 : PySem.W.codeIn K cd2 "reached_in_front" = true)
    (k2 : PySem.W.keepIn K (.ref f2) = true)
    (a3 : PySem.W.nsIn K mainGlobals "kept_rows" = some (some (.ref f3)))
    (l3 : K.lookup f3 = some ⟨oc3, od3, .func (PySem.W.fnOf "kept_rows" "kept_rows" (defArgs (top 3)) (defBody (top 3)) (defScope (top 3)) .none kV3 dc3 pm3 an3 cd3 ct3), sl3⟩)
    (c3 : PySem.W.codeIn K cd3 "kept_rows" = true)
    (k3 : PySem.W.keepIn K (.ref f3) = true)
    (a4 : PySem.W.nsIn K mainGlobals "_numbered" = some (some (.ref f4)))
    (l4 : K.lookup f4 = some ⟨oc4, od4, .func (PySem.W.fnOf "_numbered" "_numbered" (defArgs (top 5)) (defBody (top 5)) (defScope (top 5)) .none kV4 dc4 pm4 an4 cd4 ct4), sl4⟩)
    (c4 : PySem.W.codeIn K cd4 "_numbered" = true)
    (k4 : PySem.W.keepIn K (.ref f4) = true)
    (a5 : PySem.W.nsIn K mainGlobals "classes" = some (some (.ref f5)))
    (l5 : K.lookup f5 = some ⟨oc5, od5, .func (PySem.W.fnOf "classes" "classes" (defArgs (top 6)) (defBody (top 6)) (defScope (top 6)) .none kV5 dc5 pm5 an5 cd5 ct5), sl5⟩)
    (c5 : PySem.W.codeIn K cd5 "classes" = true)
    (k5 : PySem.W.keepIn K (.ref f5) = true)
    (a6 : PySem.W.nsIn K mainGlobals "_chosen" = some (some (.ref f6)))
    (l6 : K.lookup f6 = some ⟨oc6, od6, .func (PySem.W.fnOf "_chosen" "_chosen" (defArgs (top 7)) (defBody (top 7)) (defScope (top 7)) .none kV6 dc6 pm6 an6 cd6 ct6), sl6⟩)
    (c6 : PySem.W.codeIn K cd6 "_chosen" = true)
    (k6 : PySem.W.keepIn K (.ref f6) = true)
    (a7 : PySem.W.nsIn K mainGlobals "least_parts" = some (some (.ref f7)))
    (l7 : K.lookup f7 = some ⟨oc7, od7, .func (PySem.W.fnOf "least_parts" "least_parts" (defArgs (top 8)) (defBody (top 8)) (defScope (top 8)) .none kV7 dc7 pm7 an7 cd7 ct7), sl7⟩)
    (c7 : PySem.W.codeIn K cd7 "least_parts" = true)
    (k7 : PySem.W.keepIn K (.ref f7) = true)
    (a8 : PySem.W.nsIn K mainGlobals "onward" = some (some (.ref f8)))
    (l8 : K.lookup f8 = some ⟨oc8, od8, .func (PySem.W.fnOf "onward" "onward" (defArgs (top 11)) (defBody (top 11)) (defScope (top 11)) .none kV8 dc8 pm8 an8 cd8 ct8), sl8⟩)
    (c8 : PySem.W.codeIn K cd8 "onward" = true)
    (k8 : PySem.W.keepIn K (.ref f8) = true)
    (a9 : PySem.W.nsIn K mainGlobals "accepts" = some (some (.ref f9)))
    (l9 : K.lookup f9 = some ⟨oc9, od9, .func (PySem.W.fnOf "accepts" "accepts" (defArgs (top 12)) (defBody (top 12)) (defScope (top 12)) .none kV9 dc9 pm9 an9 cd9 ct9), sl9⟩)
    (c9 : PySem.W.codeIn K cd9 "accepts" = true)
    (k9 : PySem.W.keepIn K (.ref f9) = true)
    (a10 : PySem.W.nsIn K mainGlobals "describes" = some (some (.ref f10)))
    (l10 : K.lookup f10 = some ⟨oc10, od10, .func (PySem.W.fnOf "describes" "describes" (defArgs (top 13)) (defBody (top 13)) (defScope (top 13)) .none kV10 dc10 pm10 an10 cd10 ct10), sl10⟩)
    (c10 : PySem.W.codeIn K cd10 "describes" = true)
    (k10 : PySem.W.keepIn K (.ref f10) = true)
    (a11 : PySem.W.nsIn K mainGlobals "automaton_of" = some (some (.ref f11)))
    (l11 : K.lookup f11 = some ⟨oc11, od11, .func (PySem.W.fnOf "automaton_of" "automaton_of" (defArgs (top 14)) (defBody (top 14)) (defScope (top 14)) .none kV11 dc11 pm11 an11 cd11 ct11), sl11⟩)
    (c11 : PySem.W.codeIn K cd11 "automaton_of" = true)
    (k11 : PySem.W.keepIn K (.ref f11) = true)
    (a12 : PySem.W.nsIn K mainGlobals "least_automaton" = some (some (.ref f12)))
    (l12 : K.lookup f12 = some ⟨oc12, od12, .func (PySem.W.fnOf "least_automaton" "least_automaton" (defArgs (top 15)) (defBody (top 15)) (defScope (top 15)) .none kV12 dc12 pm12 an12 cd12 ct12), sl12⟩)
    (c12 : PySem.W.codeIn K cd12 "least_automaton" = true)
    (k12 : PySem.W.keepIn K (.ref f12) = true)
    (a13 : PySem.W.nsIn K mainGlobals "_merged" = some (some (.ref f13)))
    (l13 : K.lookup f13 = some ⟨oc13, od13, .func (PySem.W.fnOf "_merged" "_merged" (defArgs (top 25)) (defBody (top 25)) (defScope (top 25)) .none kV13 dc13 pm13 an13 cd13 ct13), sl13⟩)
    (c13 : PySem.W.codeIn K cd13 "_merged" = true)
    (k13 : PySem.W.keepIn K (.ref f13) = true)
    (a14 : PySem.W.nsIn K mainGlobals "scanned" = some (some (.ref f14)))
    (l14 : K.lookup f14 = some ⟨oc14, od14, .func (PySem.W.fnOf "scanned" "scanned" (defArgs (top 27)) (defBody (top 27)) (defScope (top 27)) .none kV14 dc14 pm14 an14 cd14 ct14), sl14⟩)
    (c14 : PySem.W.codeIn K cd14 "scanned" = true)
    (k14 : PySem.W.keepIn K (.ref f14) = true)
    (a15 : PySem.W.nsIn K mainGlobals "is_alphabet" = some (some (.ref f15)))
    (l15 : K.lookup f15 = some ⟨oc15, od15, .func (PySem.W.fnOf "is_alphabet" "is_alphabet" (defArgs (top 31)) (defBody (top 31)) (defScope (top 31)) .none kV15 dc15 pm15 an15 cd15 ct15), sl15⟩)
    (c15 : PySem.W.codeIn K cd15 "is_alphabet" = true)
    (k15 : PySem.W.keepIn K (.ref f15) = true)
    (a16 : PySem.W.nsIn K mainGlobals "is_word" = some (some (.ref f16)))
    (l16 : K.lookup f16 = some ⟨oc16, od16, .func (PySem.W.fnOf "is_word" "is_word" (defArgs (top 32)) (defBody (top 32)) (defScope (top 32)) .none kV16 dc16 pm16 an16 cd16 ct16), sl16⟩)
    (c16 : PySem.W.codeIn K cd16 "is_word" = true)
    (k16 : PySem.W.keepIn K (.ref f16) = true)
    (a17 : PySem.W.nsIn K mainGlobals "codes" = some (some (.ref f17)))
    (l17 : K.lookup f17 = some ⟨oc17, od17, .func (PySem.W.fnOf "codes" "codes" (defArgs (top 33)) (defBody (top 33)) (defScope (top 33)) .none kV17 dc17 pm17 an17 cd17 ct17), sl17⟩)
    (c17 : PySem.W.codeIn K cd17 "codes" = true)
    (k17 : PySem.W.keepIn K (.ref f17) = true)
    (a18 : PySem.W.nsIn K mainGlobals "matches" = some (some (.ref f18)))
    (l18 : K.lookup f18 = some ⟨oc18, od18, .func (PySem.W.fnOf "matches" "matches" (defArgs (top 36)) (defBody (top 36)) (defScope (top 36)) .none kV18 dc18 pm18 an18 cd18 ct18), sl18⟩)
    (c18 : PySem.W.codeIn K cd18 "matches" = true)
    (k18 : PySem.W.keepIn K (.ref f18) = true)
    (a19 : PySem.W.nsIn K mainGlobals "_automaton" = some (some (.ref f19)))
    (l19 : K.lookup f19 = some ⟨oc19, od19, .func (PySem.W.fnOf "_automaton" "_automaton" (defArgs (top 37)) (defBody (top 37)) (defScope (top 37)) .none kV19 dc19 pm19 an19 cd19 ct19), sl19⟩)
    (c19 : PySem.W.codeIn K cd19 "_automaton" = true)
    (k19 : PySem.W.keepIn K (.ref f19) = true)
    (a20 : PySem.W.nsIn K mainGlobals "_counted" = some (some (.ref f20)))
    (l20 : K.lookup f20 = some ⟨oc20, od20, .func (PySem.W.fnOf "_counted" "_counted" (defArgs (top 38)) (defBody (top 38)) (defScope (top 38)) .none kV20 dc20 pm20 an20 cd20 ct20), sl20⟩)
    (c20 : PySem.W.codeIn K cd20 "_counted" = true)
    (k20 : PySem.W.keepIn K (.ref f20) = true)
    (a21 : PySem.W.nsIn K mainGlobals "count_outputs" = some (some (.ref f21)))
    (l21 : K.lookup f21 = some ⟨oc21, od21, .func (PySem.W.fnOf "count_outputs" "count_outputs" (defArgs (top 39)) (defBody (top 39)) (defScope (top 39)) .none kV21 dc21 pm21 an21 cd21 ct21), sl21⟩)
    (c21 : PySem.W.codeIn K cd21 "count_outputs" = true)
    (k21 : PySem.W.keepIn K (.ref f21) = true)
    (a22 : PySem.W.nsIn K mainGlobals "_ways" = some (some (.ref f22)))
    (l22 : K.lookup f22 = some ⟨oc22, od22, .func (PySem.W.fnOf "_ways" "_ways" (defArgs (top 41)) (defBody (top 41)) (defScope (top 41)) .none kV22 dc22 pm22 an22 cd22 ct22), sl22⟩)
    (c22 : PySem.W.codeIn K cd22 "_ways" = true)
    (k22 : PySem.W.keepIn K (.ref f22) = true)
    (a23 : PySem.W.nsIn K mainGlobals "_into" = some (some (.ref f23)))
    (l23 : K.lookup f23 = some ⟨oc23, od23, .func (PySem.W.fnOf "_into" "_into" (defArgs (top 42)) (defBody (top 42)) (defScope (top 42)) .none kV23 dc23 pm23 an23 cd23 ct23), sl23⟩)
    (c23 : PySem.W.codeIn K cd23 "_into" = true)
    (k23 : PySem.W.keepIn K (.ref f23) = true)
    (a24 : PySem.W.nsIn K mainGlobals "count_preimages" = some (some (.ref f24)))
    (l24 : K.lookup f24 = some ⟨oc24, od24, .func (PySem.W.fnOf "count_preimages" "count_preimages" (defArgs (top 43)) (defBody (top 43)) (defScope (top 43)) .none kV24 dc24 pm24 an24 cd24 ct24), sl24⟩)
    (c24 : PySem.W.codeIn K cd24 "count_preimages" = true)
    (k24 : PySem.W.keepIn K (.ref f24) = true)
    (a25 : PySem.W.nsIn K mainGlobals "_are_rows" = some (some (.ref f25)))
    (l25 : K.lookup f25 = some ⟨oc25, od25, .func (PySem.W.fnOf "_are_rows" "_are_rows" (defArgs (top 46)) (defBody (top 46)) (defScope (top 46)) .none kV25 dc25 pm25 an25 cd25 ct25), sl25⟩)
    (c25 : PySem.W.codeIn K cd25 "_are_rows" = true)
    (k25 : PySem.W.keepIn K (.ref f25) = true)
    (a26 : PySem.W.nsIn K mainGlobals "_is_table" = some (some (.ref f26)))
    (l26 : K.lookup f26 = some ⟨oc26, od26, .func (PySem.W.fnOf "_is_table" "_is_table" (defArgs (top 47)) (defBody (top 47)) (defScope (top 47)) .none kV26 dc26 pm26 an26 cd26 ct26), sl26⟩)
    (c26 : PySem.W.codeIn K cd26 "_is_table" = true)
    (k26 : PySem.W.keepIn K (.ref f26) = true)
    (a27 : PySem.W.nsIn K mainGlobals "mirror" = some (some (.ref f27)))
    (l27 : K.lookup f27 = some ⟨oc27, od27, .func (PySem.W.fnOf "mirror" "mirror" (defArgs (top 49)) (defBody (top 49)) (defScope (top 49)) .none kV27 dc27 pm27 an27 cd27 ct27), sl27⟩)
    (c27 : PySem.W.codeIn K cd27 "mirror" = true)
    (k27 : PySem.W.keepIn K (.ref f27) = true)
    (a28 : PySem.W.nsIn K mainGlobals "least" = some (some (.ref f28)))
    (l28 : K.lookup f28 = some ⟨oc28, od28, .func (PySem.W.fnOf "least" "least" (defArgs (top 51)) (defBody (top 51)) (defScope (top 51)) .none kV28 dc28 pm28 an28 cd28 ct28), sl28⟩)
    (c28 : PySem.W.codeIn K cd28 "least" = true)
    (k28 : PySem.W.keepIn K (.ref f28) = true)
    (a29 : PySem.W.nsIn K mainGlobals "_law_cell" = some (some (.ref f29)))
    (l29 : K.lookup f29 = some ⟨oc29, od29, .func (PySem.W.fnOf "_law_cell" "_law_cell" (defArgs (top 53)) (defBody (top 53)) (defScope (top 53)) .none kV29 dc29 pm29 an29 cd29 ct29), sl29⟩)
    (c29 : PySem.W.codeIn K cd29 "_law_cell" = true)
    (k29 : PySem.W.keepIn K (.ref f29) = true)
    (a30 : PySem.W.nsIn K mainGlobals "_law_row" = some (some (.ref f30)))
    (l30 : K.lookup f30 = some ⟨oc30, od30, .func (PySem.W.fnOf "_law_row" "_law_row" (defArgs (top 54)) (defBody (top 54)) (defScope (top 54)) .none kV30 dc30 pm30 an30 cd30 ct30), sl30⟩)
    (c30 : PySem.W.codeIn K cd30 "_law_row" = true)
    (k30 : PySem.W.keepIn K (.ref f30) = true)
    (a31 : PySem.W.nsIn K mainGlobals "_law_draw" = some (some (.ref f31)))
    (l31 : K.lookup f31 = some ⟨oc31, od31, .func (PySem.W.fnOf "_law_draw" "_law_draw" (defArgs (top 55)) (defBody (top 55)) (defScope (top 55)) .none kV31 dc31 pm31 an31 cd31 ct31), sl31⟩)
    (c31 : PySem.W.codeIn K cd31 "_law_draw" = true)
    (k31 : PySem.W.keepIn K (.ref f31) = true)
    (a32 : PySem.W.nsIn K mainGlobals "_law_states" = some (some (.ref f32)))
    (l32 : K.lookup f32 = some ⟨oc32, od32, .func (PySem.W.fnOf "_law_states" "_law_states" (defArgs (top 56)) (defBody (top 56)) (defScope (top 56)) .none kV32 dc32 pm32 an32 cd32 ct32), sl32⟩)
    (c32 : PySem.W.codeIn K cd32 "_law_states" = true)
    (k32 : PySem.W.keepIn K (.ref f32) = true)
    (a33 : PySem.W.nsIn K mainGlobals "_law_machine" = some (some (.ref f33)))
    (l33 : K.lookup f33 = some ⟨oc33, od33, .func (PySem.W.fnOf "_law_machine" "_law_machine" (defArgs (top 57)) (defBody (top 57)) (defScope (top 57)) .none kV33 dc33 pm33 an33 cd33 ct33), sl33⟩)
    (c33 : PySem.W.codeIn K cd33 "_law_machine" = true)
    (k33 : PySem.W.keepIn K (.ref f33) = true)
    (a34 : PySem.W.nsIn K mainGlobals "_law_alphabet" = some (some (.ref f34)))
    (l34 : K.lookup f34 = some ⟨oc34, od34, .func (PySem.W.fnOf "_law_alphabet" "_law_alphabet" (defArgs (top 58)) (defBody (top 58)) (defScope (top 58)) .none kV34 dc34 pm34 an34 cd34 ct34), sl34⟩)
    (c34 : PySem.W.codeIn K cd34 "_law_alphabet" = true)
    (k34 : PySem.W.keepIn K (.ref f34) = true)
    (a35 : PySem.W.nsIn K mainGlobals "_law_made" = some (some (.ref f35)))
    (l35 : K.lookup f35 = some ⟨oc35, od35, .func (PySem.W.fnOf "_law_made" "_law_made" (defArgs (top 59)) (defBody (top 59)) (defScope (top 59)) .none kV35 dc35 pm35 an35 cd35 ct35), sl35⟩)
    (c35 : PySem.W.codeIn K cd35 "_law_made" = true)
    (k35 : PySem.W.keepIn K (.ref f35) = true)
    (a36 : PySem.W.nsIn K mainGlobals "_law_words" = some (some (.ref f36)))
    (l36 : K.lookup f36 = some ⟨oc36, od36, .func (PySem.W.fnOf "_law_words" "_law_words" (defArgs (top 60)) (defBody (top 60)) (defScope (top 60)) .none kV36 dc36 pm36 an36 cd36 ct36), sl36⟩)
    (c36 : PySem.W.codeIn K cd36 "_law_words" = true)
    (k36 : PySem.W.keepIn K (.ref f36) = true)
    (a37 : PySem.W.nsIn K mainGlobals "_law_tree" = some (some (.ref f37)))
    (l37 : K.lookup f37 = some ⟨oc37, od37, .func (PySem.W.fnOf "_law_tree" "_law_tree" (defArgs (top 61)) (defBody (top 61)) (defScope (top 61)) .none kV37 dc37 pm37 an37 cd37 ct37), sl37⟩)
    (c37 : PySem.W.codeIn K cd37 "_law_tree" = true)
    (k37 : PySem.W.keepIn K (.ref f37) = true)
    (a38 : PySem.W.nsIn K mainGlobals "_law_text_of" = some (some (.ref f38)))
    (l38 : K.lookup f38 = some ⟨oc38, od38, .func (PySem.W.fnOf "_law_text_of" "_law_text_of" (defArgs (top 62)) (defBody (top 62)) (defScope (top 62)) .none kV38 dc38 pm38 an38 cd38 ct38), sl38⟩)
    (c38 : PySem.W.codeIn K cd38 "_law_text_of" = true)
    (k38 : PySem.W.keepIn K (.ref f38) = true)
    (a39 : PySem.W.nsIn K mainGlobals "_law_pattern" = some (some (.ref f39)))
    (l39 : K.lookup f39 = some ⟨oc39, od39, .func (PySem.W.fnOf "_law_pattern" "_law_pattern" (defArgs (top 63)) (defBody (top 63)) (defScope (top 63)) .none kV39 dc39 pm39 an39 cd39 ct39), sl39⟩)
    (c39 : PySem.W.codeIn K cd39 "_law_pattern" = true)
    (k39 : PySem.W.keepIn K (.ref f39) = true)
    (a40 : PySem.W.nsIn K mainGlobals "_law_power" = some (some (.ref f40)))
    (l40 : K.lookup f40 = some ⟨oc40, od40, .func (PySem.W.fnOf "_law_power" "_law_power" (defArgs (top 64)) (defBody (top 64)) (defScope (top 64)) .none kV40 dc40 pm40 an40 cd40 ct40), sl40⟩)
    (c40 : PySem.W.codeIn K cd40 "_law_power" = true)
    (k40 : PySem.W.keepIn K (.ref f40) = true)
    (a41 : PySem.W.nsIn K mainGlobals "law" = some (some (.ref f41)))
    (l41 : K.lookup f41 = some ⟨oc41, od41, .func (PySem.W.fnOf "law" "law" (defArgs (top 65)) (defBody (top 65)) (defScope (top 65)) .none kV41 dc41 pm41 an41 cd41 ct41), sl41⟩)
    (c41 : PySem.W.codeIn K cd41 "law" = true)
    (k41 : PySem.W.keepIn K (.ref f41) = true)
    (nAutomaton : PySem.W.nsIn K mainGlobals "Automaton" = some (some (.ref CAutomaton)))
    (pgAutomaton : PySem.W.plainGet K CAutomaton Str.empty = true)
    (hdAutomaton : PySem.W.hasDictIn K CAutomaton = true)
    (poAutomaton : PySem.W.plainOver K CAutomaton = true)
    (saAutomaton : PySem.W.findIn K (.ref CAutomaton) "__setattr__" = some (some (.builtin "object.__setattr__")))
    (mkAutomaton : PySem.W.makesIn K CAutomaton = true)
    (kcAutomaton : PySem.W.keepIn K (.ref CAutomaton) = true)
    (iAutomaton : PySem.W.findIn K (.ref CAutomaton) "__init__" = some (some (.ref f42)))
    (sAutomaton : PySem.W.isFn K (.ref f42) = true)
    (l42 : K.lookup f42 = some ⟨oc42, od42, .func (PySem.W.fnOf "__init__" "Automaton.__init__" (defArgs (inClass (top 10) 0)) (defBody (inClass (top 10) 0)) (defScope (inClass (top 10) 0)) .none kV42 dc42 pm42 an42 cd42 ct42), sl42⟩)
    (c42 : PySem.W.codeIn K cd42 "Automaton.__init__" = true)
    (k42 : PySem.W.keepIn K (.ref f42) = true)
    (nNetwork : PySem.W.nsIn K mainGlobals "Network" = some (some (.ref CNetwork)))
    (pgNetwork : PySem.W.plainGet K CNetwork Str.empty = true)
    (hdNetwork : PySem.W.hasDictIn K CNetwork = true)
    (poNetwork : PySem.W.plainOver K CNetwork = true)
    (saNetwork : PySem.W.findIn K (.ref CNetwork) "__setattr__" = some (some (.builtin "object.__setattr__")))
    (mkNetwork : PySem.W.makesIn K CNetwork = true)
    (kcNetwork : PySem.W.keepIn K (.ref CNetwork) = true)
    (iNetwork : PySem.W.findIn K (.ref CNetwork) "__init__" = some (some (.ref f43)))
    (sNetwork : PySem.W.isFn K (.ref f43) = true)
    (l43 : K.lookup f43 = some ⟨oc43, od43, .func (PySem.W.fnOf "__init__" "Network.__init__" (defArgs (inClass (top 23) 0)) (defBody (inClass (top 23) 0)) (defScope (inClass (top 23) 0)) .none kV43 dc43 pm43 an43 cd43 ct43), sl43⟩)
    (c43 : PySem.W.codeIn K cd43 "Network.__init__" = true)
    (k43 : PySem.W.keepIn K (.ref f43) = true)
    (nPart : PySem.W.nsIn K mainGlobals "Part" = some (some (.ref CPart)))
    (pgPart : PySem.W.plainGet K CPart Str.empty = true)
    (hdPart : PySem.W.hasDictIn K CPart = true)
    (poPart : PySem.W.plainOver K CPart = true)
    (saPart : PySem.W.findIn K (.ref CPart) "__setattr__" = some (some (.builtin "object.__setattr__")))
    (mkPart : PySem.W.makesIn K CPart = true)
    (kcPart : PySem.W.keepIn K (.ref CPart) = true)
    (iPart : PySem.W.findIn K (.ref CPart) "__init__" = some (some (.ref f44)))
    (sPart : PySem.W.isFn K (.ref f44) = true)
    (l44 : K.lookup f44 = some ⟨oc44, od44, .func (PySem.W.fnOf "__init__" "Part.__init__" (defArgs (inClass (top 24) 0)) (defBody (inClass (top 24) 0)) (defScope (inClass (top 24) 0)) .none kV44 dc44 pm44 an44 cd44 ct44), sl44⟩)
    (c44 : PySem.W.codeIn K cd44 "Part.__init__" = true)
    (k44 : PySem.W.keepIn K (.ref f44) = true)
    (nScanner : PySem.W.nsIn K mainGlobals "Scanner" = some (some (.ref CScanner)))
    (pgScanner : PySem.W.plainGet K CScanner Str.empty = true)
    (hdScanner : PySem.W.hasDictIn K CScanner = true)
    (poScanner : PySem.W.plainOver K CScanner = true)
    (saScanner : PySem.W.findIn K (.ref CScanner) "__setattr__" = some (some (.builtin "object.__setattr__")))
    (mkScanner : PySem.W.makesIn K CScanner = true)
    (kcScanner : PySem.W.keepIn K (.ref CScanner) = true)
    (iScanner : PySem.W.findIn K (.ref CScanner) "__init__" = some (some (.ref f45)))
    (sScanner : PySem.W.isFn K (.ref f45) = true)
    (l45 : K.lookup f45 = some ⟨oc45, od45, .func (PySem.W.fnOf "__init__" "Scanner.__init__" (defArgs (inClass (top 26) 0)) (defBody (inClass (top 26) 0)) (defScope (inClass (top 26) 0)) .none kV45 dc45 pm45 an45 cd45 ct45), sl45⟩)
    (c45 : PySem.W.codeIn K cd45 "Scanner.__init__" = true)
    (k45 : PySem.W.keepIn K (.ref f45) = true)
    (nPattern : PySem.W.nsIn K mainGlobals "Pattern" = some (some (.ref CPattern)))
    (pgPattern : PySem.W.plainGet K CPattern Str.empty = true)
    (hdPattern : PySem.W.hasDictIn K CPattern = true)
    (poPattern : PySem.W.plainOver K CPattern = true)
    (saPattern : PySem.W.findIn K (.ref CPattern) "__setattr__" = some (some (.builtin "object.__setattr__")))
    (mkPattern : PySem.W.makesIn K CPattern = true)
    (kcPattern : PySem.W.keepIn K (.ref CPattern) = true)
    (iPattern : PySem.W.findIn K (.ref CPattern) "__init__" = some (some (.ref f46)))
    (sPattern : PySem.W.isFn K (.ref f46) = true)
    (l46 : K.lookup f46 = some ⟨oc46, od46, .func (PySem.W.fnOf "__init__" "Pattern.__init__" (defArgs (inClass (top 35) 0)) (defBody (inClass (top 35) 0)) (defScope (inClass (top 35) 0)) .none kV46 dc46 pm46 an46 cd46 ct46), sl46⟩)
    (c46 : PySem.W.codeIn K cd46 "Pattern.__init__" = true)
    (k46 : PySem.W.keepIn K (.ref f46) = true)
    (nMachine : PySem.W.nsIn K mainGlobals "Machine" = some (some (.ref CMachine)))
    (pgMachine : PySem.W.plainGet K CMachine Str.empty = true)
    (hdMachine : PySem.W.hasDictIn K CMachine = true)
    (poMachine : PySem.W.plainOver K CMachine = true)
    (saMachine : PySem.W.findIn K (.ref CMachine) "__setattr__" = some (some (.builtin "object.__setattr__")))
    (mkMachine : PySem.W.makesIn K CMachine = true)
    (kcMachine : PySem.W.keepIn K (.ref CMachine) = true)
    (iMachine : PySem.W.findIn K (.ref CMachine) "__init__" = some (some (.ref f47)))
    (sMachine : PySem.W.isFn K (.ref f47) = true)
    (l47 : K.lookup f47 = some ⟨oc47, od47, .func (PySem.W.fnOf "__init__" "Machine.__init__" (defArgs (inClass (top 48) 0)) (defBody (inClass (top 48) 0)) (defScope (inClass (top 48) 0)) .none kV47 dc47 pm47 an47 cd47 ct47), sl47⟩)
    (c47 : PySem.W.codeIn K cd47 "Machine.__init__" = true)
    (k47 : PySem.W.keepIn K (.ref f47) = true)
    (m48 : PySem.W.findIn K (.ref CScanner) "is_closed" = some (some (.ref f48)))
    (s48 : PySem.W.isFn K (.ref f48) = true)
    (l48 : K.lookup f48 = some ⟨oc48, od48, .func (PySem.W.fnOf "is_closed" "Scanner.is_closed" (defArgs (inClass (top 26) 1)) (defBody (inClass (top 26) 1)) (defScope (inClass (top 26) 1)) .none kV48 dc48 pm48 an48 cd48 ct48), sl48⟩)
    (c48 : PySem.W.codeIn K cd48 "Scanner.is_closed" = true)
    (k48 : PySem.W.keepIn K (.ref f48) = true)
    (m49 : PySem.W.findIn K (.ref CScanner) "take" = some (some (.ref f49)))
    (s49 : PySem.W.isFn K (.ref f49) = true)
    (l49 : K.lookup f49 = some ⟨oc49, od49, .func (PySem.W.fnOf "take" "Scanner.take" (defArgs (inClass (top 26) 2)) (defBody (inClass (top 26) 2)) (defScope (inClass (top 26) 2)) .none kV49 dc49 pm49 an49 cd49 ct49), sl49⟩)
    (c49 : PySem.W.codeIn K cd49 "Scanner.take" = true)
    (k49 : PySem.W.keepIn K (.ref f49) = true)
    (m50 : PySem.W.findIn K (.ref CScanner) "_add" = some (some (.ref f50)))
    (s50 : PySem.W.isFn K (.ref f50) = true)
    (l50 : K.lookup f50 = some ⟨oc50, od50, .func (PySem.W.fnOf "_add" "Scanner._add" (defArgs (inClass (top 26) 3)) (defBody (inClass (top 26) 3)) (defScope (inClass (top 26) 3)) .none kV50 dc50 pm50 an50 cd50 ct50), sl50⟩)
    (c50 : PySem.W.codeIn K cd50 "Scanner._add" = true)
    (k50 : PySem.W.keepIn K (.ref f50) = true)
    (m51 : PySem.W.findIn K (.ref CScanner) "_add_place" = some (some (.ref f51)))
    (s51 : PySem.W.isFn K (.ref f51) = true)
    (l51 : K.lookup f51 = some ⟨oc51, od51, .func (PySem.W.fnOf "_add_place" "Scanner._add_place" (defArgs (inClass (top 26) 4)) (defBody (inClass (top 26) 4)) (defScope (inClass (top 26) 4)) .none kV51 dc51 pm51 an51 cd51 ct51), sl51⟩)
    (c51 : PySem.W.codeIn K cd51 "Scanner._add_place" = true)
    (k51 : PySem.W.keepIn K (.ref f51) = true)
    (m52 : PySem.W.findIn K (.ref CScanner) "_take_star" = some (some (.ref f52)))
    (s52 : PySem.W.isFn K (.ref f52) = true)
    (l52 : K.lookup f52 = some ⟨oc52, od52, .func (PySem.W.fnOf "_take_star" "Scanner._take_star" (defArgs (inClass (top 26) 5)) (defBody (inClass (top 26) 5)) (defScope (inClass (top 26) 5)) .none kV52 dc52 pm52 an52 cd52 ct52), sl52⟩)
    (c52 : PySem.W.codeIn K cd52 "Scanner._take_star" = true)
    (k52 : PySem.W.keepIn K (.ref f52) = true)
    (m53 : PySem.W.findIn K (.ref CScanner) "_close" = some (some (.ref f53)))
    (s53 : PySem.W.isFn K (.ref f53) = true)
    (l53 : K.lookup f53 = some ⟨oc53, od53, .func (PySem.W.fnOf "_close" "Scanner._close" (defArgs (inClass (top 26) 6)) (defBody (inClass (top 26) 6)) (defScope (inClass (top 26) 6)) .none kV53 dc53 pm53 an53 cd53 ct53), sl53⟩)
    (c53 : PySem.W.codeIn K cd53 "Scanner._close" = true)
    (k53 : PySem.W.keepIn K (.ref f53) = true)
    (m54 : PySem.W.findIn K (.ref CScanner) "_join" = some (some (.ref f54)))
    (s54 : PySem.W.isFn K (.ref f54) = true)
    (l54 : K.lookup f54 = some ⟨oc54, od54, .func (PySem.W.fnOf "_join" "Scanner._join" (defArgs (inClass (top 26) 7)) (defBody (inClass (top 26) 7)) (defScope (inClass (top 26) 7)) .none kV54 dc54 pm54 an54 cd54 ct54), sl54⟩)
    (c54 : PySem.W.codeIn K cd54 "Scanner._join" = true)
    (k54 : PySem.W.keepIn K (.ref f54) = true)
    (m55 : PySem.W.findIn K (.ref CScanner) "_row" = some (some (.ref f55)))
    (s55 : PySem.W.isFn K (.ref f55) = true)
    (l55 : K.lookup f55 = some ⟨oc55, od55, .func (PySem.W.fnOf "_row" "Scanner._row" (defArgs (inClass (top 26) 8)) (defBody (inClass (top 26) 8)) (defScope (inClass (top 26) 8)) .none kV55 dc55 pm55 an55 cd55 ct55), sl55⟩)
    (c55 : PySem.W.codeIn K cd55 "Scanner._row" = true)
    (k55 : PySem.W.keepIn K (.ref f55) = true)
    (m56 : PySem.W.findIn K (.ref CScanner) "_choice" = some (some (.ref f56)))
    (s56 : PySem.W.isFn K (.ref f56) = true)
    (l56 : K.lookup f56 = some ⟨oc56, od56, .func (PySem.W.fnOf "_choice" "Scanner._choice" (defArgs (inClass (top 26) 9)) (defBody (inClass (top 26) 9)) (defScope (inClass (top 26) 9)) .none kV56 dc56 pm56 an56 cd56 ct56), sl56⟩)
    (c56 : PySem.W.codeIn K cd56 "Scanner._choice" = true)
    (k56 : PySem.W.keepIn K (.ref f56) = true)
    (m57 : PySem.W.findIn K (.ref CScanner) "network" = some (some (.ref f57)))
    (s57 : PySem.W.isFn K (.ref f57) = true)
    (l57 : K.lookup f57 = some ⟨oc57, od57, .func (PySem.W.fnOf "network" "Scanner.network" (defArgs (inClass (top 26) 10)) (defBody (inClass (top 26) 10)) (defScope (inClass (top 26) 10)) .none kV57 dc57 pm57 an57 cd57 ct57), sl57⟩)
    (c57 : PySem.W.codeIn K cd57 "Scanner.network" = true)
    (k57 : PySem.W.keepIn K (.ref f57) = true)
    (o_Automaton_rows : PySem.W.findIn K (.ref CAutomaton) "rows" = some none)
    (o_Automaton_accepts : PySem.W.findIn K (.ref CAutomaton) "accepts" = some none)
    (o_Network_marks : PySem.W.findIn K (.ref CNetwork) "marks" = some none)
    (o_Network_follow : PySem.W.findIn K (.ref CNetwork) "follow" = some none)
    (o_Network_ends : PySem.W.findIn K (.ref CNetwork) "ends" = some none)
    (o_Part_nullable : PySem.W.findIn K (.ref CPart) "nullable" = some none)
    (o_Part_first : PySem.W.findIn K (.ref CPart) "first" = some none)
    (o_Part_last : PySem.W.findIn K (.ref CPart) "last" = some none)
    (o_Scanner_alphabet : PySem.W.findIn K (.ref CScanner) "alphabet" = some none)
    (o_Scanner_marks : PySem.W.findIn K (.ref CScanner) "marks" = some none)
    (o_Scanner_follow : PySem.W.findIn K (.ref CScanner) "follow" = some none)
    (o_Scanner_frames : PySem.W.findIn K (.ref CScanner) "frames" = some none)
    (o_Scanner_signs : PySem.W.findIn K (.ref CScanner) "signs" = some none)
    (o_Scanner_starred : PySem.W.findIn K (.ref CScanner) "starred" = some none)
    (o_Pattern_alphabet : PySem.W.findIn K (.ref CPattern) "alphabet" = some none)
    (o_Pattern_text : PySem.W.findIn K (.ref CPattern) "text" = some none)
    (o_Pattern_network : PySem.W.findIn K (.ref CPattern) "network" = some none)
    (o_Machine_reads : PySem.W.findIn K (.ref CMachine) "reads" = some none)
    (o_Machine_writes : PySem.W.findIn K (.ref CMachine) "writes" = some none)
    (o_Machine_left : PySem.W.findIn K (.ref CMachine) "left" = some none)
    (o_Machine_right : PySem.W.findIn K (.ref CMachine) "right" = some none)
    (o_Machine_table : PySem.W.findIn K (.ref CMachine) "table" = some none)
    (z_len : PySem.W.nsIn K mainGlobals "len" = some none)
    (z_range : PySem.W.nsIn K mainGlobals "range" = some none)
    (z_enumerate : PySem.W.nsIn K mainGlobals "enumerate" = some none)
    (z_tuple : PySem.W.nsIn K mainGlobals "tuple" = some none)
    (z_list : PySem.W.nsIn K mainGlobals "list" = some none)
    (z_sorted : PySem.W.nsIn K mainGlobals "sorted" = some none)
    (z_sum : PySem.W.nsIn K mainGlobals "sum" = some none)
    (z_max : PySem.W.nsIn K mainGlobals "max" = some none)
    (z_any : PySem.W.nsIn K mainGlobals "any" = some none)
    (z_all : PySem.W.nsIn K mainGlobals "all" = some none)
    (z_isinstance : PySem.W.nsIn K mainGlobals "isinstance" = some none)
    (z_str : PySem.W.nsIn K mainGlobals "str" = some none)
    (z_int : PySem.W.nsIn K mainGlobals "int" = some none)
    (z_bool : PySem.W.nsIn K mainGlobals "bool" = some none)
    (z_abs : PySem.W.nsIn K mainGlobals "abs" = some none)
    (v_MOST_SIGNS : PySem.W.nsIn K mainGlobals "MOST_SIGNS" = some (some (.int 12 t_MOST_SIGNS)))
    (v_STARS : PySem.W.nsIn K mainGlobals "STARS" = some (some (.str "*+?" t_STARS)))
    (v_LETTERS : PySem.W.nsIn K mainGlobals "LETTERS" = some (some (.str "abcdefghijklmnopqrstuvwxyz" t_LETTERS)))
    (v_MOST_LETTERS : PySem.W.nsIn K mainGlobals "MOST_LETTERS" = some (some (.int 5 t_MOST_LETTERS)))
    (v_MOST_STATES : PySem.W.nsIn K mainGlobals "MOST_STATES" = some (some (.int 40 t_MOST_STATES))) :
    ∃ fd : FuncData, (∀ (s : Shared) (v : Value), BindsTo s fd ⟨[v], []⟩ [("_law_script", v)]) ∧ ∀ base : Heap, K.In base → base.Ns mainGlobals mg → FnOk l.prog w K mg base CX0 10 fa fd ["_law_script"] (spLaw K) := by
  have e := hfa.symm.trans (PySem.W.mg_of X G a41)
  cases e
  have F1 := fun_mk (st := top 1) l1 c1 k1
  have F2 := fun_mk (st := top 2) l2 c2 k2
  have F3 := fun_mk (st := top 3) l3 c3 k3
  have F4 := fun_mk (st := top 5) l4 c4 k4
  have F5 := fun_mk (st := top 6) l5 c5 k5
  have F6 := fun_mk (st := top 7) l6 c6 k6
  have F7 := fun_mk (st := top 8) l7 c7 k7
  have F8 := fun_mk (st := top 11) l8 c8 k8
  have F9 := fun_mk (st := top 12) l9 c9 k9
  have F10 := fun_mk (st := top 13) l10 c10 k10
  have F11 := fun_mk (st := top 14) l11 c11 k11
  have F12 := fun_mk (st := top 15) l12 c12 k12
  have F13 := fun_mk (st := top 25) l13 c13 k13
  have F14 := fun_mk (st := top 27) l14 c14 k14
  have F15 := fun_mk (st := top 31) l15 c15 k15
  have F16 := fun_mk (st := top 32) l16 c16 k16
  have F17 := fun_mk (st := top 33) l17 c17 k17
  have F18 := fun_mk (st := top 36) l18 c18 k18
  have F19 := fun_mk (st := top 37) l19 c19 k19
  have F20 := fun_mk (st := top 38) l20 c20 k20
  have F21 := fun_mk (st := top 39) l21 c21 k21
  have F22 := fun_mk (st := top 41) l22 c22 k22
  have F23 := fun_mk (st := top 42) l23 c23 k23
  have F24 := fun_mk (st := top 43) l24 c24 k24
  have F25 := fun_mk (st := top 46) l25 c25 k25
  have F26 := fun_mk (st := top 47) l26 c26 k26
  have F27 := fun_mk (st := top 49) l27 c27 k27
  have F28 := fun_mk (st := top 51) l28 c28 k28
  have F29 := fun_mk (st := top 53) l29 c29 k29
  have F30 := fun_mk (st := top 54) l30 c30 k30
  have F31 := fun_mk (st := top 55) l31 c31 k31
  have F32 := fun_mk (st := top 56) l32 c32 k32
  have F33 := fun_mk (st := top 57) l33 c33 k33
  have F34 := fun_mk (st := top 58) l34 c34 k34
  have F35 := fun_mk (st := top 59) l35 c35 k35
  have F36 := fun_mk (st := top 60) l36 c36 k36
  have F37 := fun_mk (st := top 61) l37 c37 k37
  have F38 := fun_mk (st := top 62) l38 c38 k38
  have F39 := fun_mk (st := top 63) l39 c39 k39
  have F40 := fun_mk (st := top 64) l40 c40 k40
  have F41 := fun_mk (st := top 65) l41 c41 k41
  have F42 := fun_mk (st := inClass (top 10) 0) l42 c42 k42
  have F43 := fun_mk (st := inClass (top 23) 0) l43 c43 k43
  have F44 := fun_mk (st := inClass (top 24) 0) l44 c44 k44
  have F45 := fun_mk (st := inClass (top 26) 0) l45 c45 k45
  have F46 := fun_mk (st := inClass (top 35) 0) l46 c46 k46
  have F47 := fun_mk (st := inClass (top 48) 0) l47 c47 k47
  have F48 := fun_mk (st := inClass (top 26) 1) l48 c48 k48
  have F49 := fun_mk (st := inClass (top 26) 2) l49 c49 k49
  have F50 := fun_mk (st := inClass (top 26) 3) l50 c50 k50
  have F51 := fun_mk (st := inClass (top 26) 4) l51 c51 k51
  have F52 := fun_mk (st := inClass (top 26) 5) l52 c52 k52
  have F53 := fun_mk (st := inClass (top 26) 6) l53 c53 k53
  have F54 := fun_mk (st := inClass (top 26) 7) l54 c54 k54
  have F55 := fun_mk (st := inClass (top 26) 8) l55 c55 k55
  have F56 := fun_mk (st := inClass (top 26) 9) l56 c56 k56
  have F57 := fun_mk (st := inClass (top 26) 10) l57 c57 k57
  have T : Nonempty { T : Txt K mg // T.d_law.f = fa ∧ T.d_law.fd = PySem.W.fnOf "law" "law" (defArgs (top 65)) (defBody (top 65)) (defScope (top 65)) .none kV41 dc41 pm41 an41 cd41 ct41 } := ⟨⟨{
    d_reached_behind := ⟨_, _, F1, PySem.W.mg_of X G a1, (F1.binds (ps := ["rows", "start"]) fun _ _ _ _ _ _ us hl => match us, hl with | [_, _], _ => rfl)⟩
    d_reached_in_front := ⟨_, _, F2, PySem.W.mg_of X G a2, (F2.binds (ps := ["rows", "start", "letters"]) fun _ _ _ _ _ _ us hl => match us, hl with | [_, _, _], _ => rfl)⟩
    d_kept_rows := ⟨_, _, F3, PySem.W.mg_of X G a3, (F3.binds (ps := ["rows", "order"]) fun _ _ _ _ _ _ us hl => match us, hl with | [_, _], _ => rfl)⟩
    d__numbered := ⟨_, _, F4, PySem.W.mg_of X G a4, (F4.binds (ps := ["keys"]) fun _ _ _ _ _ _ us hl => match us, hl with | [_], _ => rfl)⟩
    d_classes := ⟨_, _, F5, PySem.W.mg_of X G a5, (F5.binds (ps := ["rows", "marks"]) fun _ _ _ _ _ _ us hl => match us, hl with | [_, _], _ => rfl)⟩
    d__chosen := ⟨_, _, F6, PySem.W.mg_of X G a6, (F6.binds (ps := ["rows", "parts"]) fun _ _ _ _ _ _ us hl => match us, hl with | [_, _], _ => rfl)⟩
    d_least_parts := ⟨_, _, F7, PySem.W.mg_of X G a7, (F7.binds (ps := ["left", "right", "table", "letters"]) fun _ _ _ _ _ _ us hl => match us, hl with | [_, _, _, _], _ => rfl)⟩
    d_onward := ⟨_, _, F8, PySem.W.mg_of X G a8, (F8.binds (ps := ["network", "places", "k"]) fun _ _ _ _ _ _ us hl => match us, hl with | [_, _, _], _ => rfl)⟩
    d_accepts := ⟨_, _, F9, PySem.W.mg_of X G a9, (F9.binds (ps := ["network", "places"]) fun _ _ _ _ _ _ us hl => match us, hl with | [_, _], _ => rfl)⟩
    d_describes := ⟨_, _, F10, PySem.W.mg_of X G a10, (F10.binds (ps := ["network", "indexes"]) fun _ _ _ _ _ _ us hl => match us, hl with | [_, _], _ => rfl)⟩
    d_automaton_of := ⟨_, _, F11, PySem.W.mg_of X G a11, (F11.binds (ps := ["network", "letters", "anywhere"]) fun _ _ _ _ _ _ us hl => match us, hl with | [_, _, _], _ => rfl)⟩
    d_least_automaton := ⟨_, _, F12, PySem.W.mg_of X G a12, (F12.binds (ps := ["automaton"]) fun _ _ _ _ _ _ us hl => match us, hl with | [_], _ => rfl)⟩
    d__merged := ⟨_, _, F13, PySem.W.mg_of X G a13, (F13.binds (ps := ["one", "two"]) fun _ _ _ _ _ _ us hl => match us, hl with | [_, _], _ => rfl)⟩
    d_scanned := ⟨_, _, F14, PySem.W.mg_of X G a14, (F14.binds (ps := ["alphabet", "text", "start", "stops"]) fun _ _ _ _ _ _ us hl => match us, hl with | [_, _, _, _], _ => rfl)⟩
    d_is_alphabet := ⟨_, _, F15, PySem.W.mg_of X G a15, (F15.binds (ps := ["thing"]) fun _ _ _ _ _ _ us hl => match us, hl with | [_], _ => rfl)⟩
    d_is_word := ⟨_, _, F16, PySem.W.mg_of X G a16, (F16.binds (ps := ["alphabet", "thing"]) fun _ _ _ _ _ _ us hl => match us, hl with | [_, _], _ => rfl)⟩
    d_codes := ⟨_, _, F17, PySem.W.mg_of X G a17, (F17.binds (ps := ["alphabet", "word"]) fun _ _ _ _ _ _ us hl => match us, hl with | [_, _], _ => rfl)⟩
    d_matches := ⟨_, _, F18, PySem.W.mg_of X G a18, (F18.binds (ps := ["pattern", "word"]) fun _ _ _ _ _ _ us hl => match us, hl with | [_, _], _ => rfl)⟩
    d__automaton := ⟨_, _, F19, PySem.W.mg_of X G a19, (F19.binds (ps := ["pattern"]) fun _ _ _ _ _ _ us hl => match us, hl with | [_], _ => rfl)⟩
    d__counted := ⟨_, _, F20, PySem.W.mg_of X G a20, (F20.binds (ps := ["machine", "automaton", "counts"]) fun _ _ _ _ _ _ us hl => match us, hl with | [_, _, _], _ => rfl)⟩
    d_count_outputs := ⟨_, _, F21, PySem.W.mg_of X G a21, (F21.binds (ps := ["machine", "pattern", "length"]) fun _ _ _ _ _ _ us hl => match us, hl with | [_, _, _], _ => rfl)⟩
    d__ways := ⟨_, _, F22, PySem.W.mg_of X G a22, (F22.binds (ps := ["machine", "word"]) fun _ _ _ _ _ _ us hl => match us, hl with | [_, _], _ => rfl)⟩
    d__into := ⟨_, _, F23, PySem.W.mg_of X G a23, (F23.binds (ps := ["machine", "state"]) fun _ _ _ _ _ _ us hl => match us, hl with | [_, _], _ => rfl)⟩
    d_count_preimages := ⟨_, _, F24, PySem.W.mg_of X G a24, (F24.binds (ps := ["machine", "word"]) fun _ _ _ _ _ _ us hl => match us, hl with | [_, _], _ => rfl)⟩
    d__are_rows := ⟨_, _, F25, PySem.W.mg_of X G a25, (F25.binds (ps := ["thing", "letters"]) fun _ _ _ _ _ _ us hl => match us, hl with | [_, _], _ => rfl)⟩
    d__is_table := ⟨_, _, F26, PySem.W.mg_of X G a26, (F26.binds (ps := ["thing", "left", "right", "letters", "writes"]) fun _ _ _ _ _ _ us hl => match us, hl with | [_, _, _, _, _], _ => rfl)⟩
    d_mirror := ⟨_, _, F27, PySem.W.mg_of X G a27, (F27.binds (ps := ["machine"]) fun _ _ _ _ _ _ us hl => match us, hl with | [_], _ => rfl)⟩
    d_least := ⟨_, _, F28, PySem.W.mg_of X G a28, (F28.binds (ps := ["machine"]) fun _ _ _ _ _ _ us hl => match us, hl with | [_], _ => rfl)⟩
    d__law_cell := ⟨_, _, F29, PySem.W.mg_of X G a29, (F29.binds (ps := ["_law_script", "_law_k"]) fun _ _ _ _ _ _ us hl => match us, hl with | [_, _], _ => rfl)⟩
    d__law_row := ⟨_, _, F30, PySem.W.mg_of X G a30, (F30.binds (ps := ["_law_script", "_law_first", "_law_last"]) fun _ _ _ _ _ _ us hl => match us, hl with | [_, _, _], _ => rfl)⟩
    d__law_draw := ⟨_, _, F31, PySem.W.mg_of X G a31, (F31.binds (ps := ["_law_box", "_law_many"]) fun _ _ _ _ _ _ us hl => match us, hl with | [_, _], _ => rfl)⟩
    d__law_states := ⟨_, _, F32, PySem.W.mg_of X G a32, (F32.binds (ps := ["_law_box", "_law_many", "_law_letters"]) fun _ _ _ _ _ _ us hl => match us, hl with | [_, _, _], _ => rfl)⟩
    d__law_machine := ⟨_, _, F33, PySem.W.mg_of X G a33, (F33.binds (ps := ["_law_box", "_law_ins", "_law_outs", "_law_most"]) fun _ _ _ _ _ _ us hl => match us, hl with | [_, _, _, _], _ => rfl)⟩
    d__law_alphabet := ⟨_, _, F34, PySem.W.mg_of X G a34, (F34.binds (ps := ["_law_box", "_law_many"]) fun _ _ _ _ _ _ us hl => match us, hl with | [_, _], _ => rfl)⟩
    d__law_made := ⟨_, _, F35, PySem.W.mg_of X G a35, (F35.binds (ps := ["_law_m"]) fun _ _ _ _ _ _ us hl => match us, hl with | [_], _ => rfl)⟩
    d__law_words := ⟨_, _, F36, PySem.W.mg_of X G a36, (F36.binds (ps := ["_law_alphabet_here", "_law_most"]) fun _ _ _ _ _ _ us hl => match us, hl with | [_, _], _ => rfl)⟩
    d__law_tree := ⟨_, _, F37, PySem.W.mg_of X G a37, (F37.binds (ps := ["_law_box", "_law_alphabet_here", "_law_depth"]) fun _ _ _ _ _ _ us hl => match us, hl with | [_, _, _], _ => rfl)⟩
    d__law_text_of := ⟨_, _, F38, PySem.W.mg_of X G a38, (F38.binds (ps := ["_law_tree_here", "_law_level"]) fun _ _ _ _ _ _ us hl => match us, hl with | [_, _], _ => rfl)⟩
    d__law_pattern := ⟨_, _, F39, PySem.W.mg_of X G a39, (F39.binds (ps := ["_law_box", "_law_alphabet_here"]) fun _ _ _ _ _ _ us hl => match us, hl with | [_, _], _ => rfl)⟩
    d__law_power := ⟨_, _, F40, PySem.W.mg_of X G a40, (F40.binds (ps := ["_law_base", "_law_many"]) fun _ _ _ _ _ _ us hl => match us, hl with | [_, _], _ => rfl)⟩
    d_law := ⟨_, _, F41, PySem.W.mg_of X G a41, (F41.binds (ps := ["_law_script"]) fun _ _ _ _ _ _ us hl => match us, hl with | [_], _ => rfl)⟩
    c_Automaton := ⟨CAutomaton, PySem.W.mg_of X G nAutomaton, ⟨pgAutomaton, hdAutomaton, poAutomaton, saAutomaton⟩, ⟨f42, _, F42, (F42.binds (ps := ["self", "rows", "accepts"]) fun _ _ _ _ _ _ us hl => match us, hl with | [_, _, _], _ => rfl)⟩, ⟨mkAutomaton, iAutomaton, sAutomaton, kcAutomaton⟩⟩
    c_Network := ⟨CNetwork, PySem.W.mg_of X G nNetwork, ⟨pgNetwork, hdNetwork, poNetwork, saNetwork⟩, ⟨f43, _, F43, (F43.binds (ps := ["self", "marks", "follow", "ends"]) fun _ _ _ _ _ _ us hl => match us, hl with | [_, _, _, _], _ => rfl)⟩, ⟨mkNetwork, iNetwork, sNetwork, kcNetwork⟩⟩
    c_Part := ⟨CPart, PySem.W.mg_of X G nPart, ⟨pgPart, hdPart, poPart, saPart⟩, ⟨f44, _, F44, (F44.binds (ps := ["self", "nullable", "first", "last"]) fun _ _ _ _ _ _ us hl => match us, hl with | [_, _, _, _], _ => rfl)⟩, ⟨mkPart, iPart, sPart, kcPart⟩⟩
    c_Scanner := ⟨CScanner, PySem.W.mg_of X G nScanner, ⟨pgScanner, hdScanner, poScanner, saScanner⟩, ⟨f45, _, F45, (F45.binds (ps := ["self", "alphabet"]) fun _ _ _ _ _ _ us hl => match us, hl with | [_, _], _ => rfl)⟩, ⟨mkScanner, iScanner, sScanner, kcScanner⟩⟩
    c_Pattern := ⟨CPattern, PySem.W.mg_of X G nPattern, ⟨pgPattern, hdPattern, poPattern, saPattern⟩, ⟨f46, _, F46, (F46.binds (ps := ["self", "alphabet", "text"]) fun _ _ _ _ _ _ us hl => match us, hl with | [_, _, _], _ => rfl)⟩, ⟨mkPattern, iPattern, sPattern, kcPattern⟩⟩
    c_Machine := ⟨CMachine, PySem.W.mg_of X G nMachine, ⟨pgMachine, hdMachine, poMachine, saMachine⟩, ⟨f47, _, F47, (F47.binds (ps := ["self", "reads", "writes", "left", "right", "table"]) fun _ _ _ _ _ _ us hl => match us, hl with | [_, _, _, _, _, _], _ => rfl)⟩, ⟨mkMachine, iMachine, sMachine, kcMachine⟩⟩
    m_Scanner_is_closed := ⟨⟨f48, _, F48, (F48.binds (ps := ["self"]) fun _ _ _ _ _ _ us hl => match us, hl with | [_], _ => rfl)⟩, ⟨m48, s48, k48⟩⟩
    m_Scanner_take := ⟨⟨f49, _, F49, (F49.binds (ps := ["self", "sign"]) fun _ _ _ _ _ _ us hl => match us, hl with | [_, _], _ => rfl)⟩, ⟨m49, s49, k49⟩⟩
    m_Scanner__add := ⟨⟨f50, _, F50, (F50.binds (ps := ["self", "part"]) fun _ _ _ _ _ _ us hl => match us, hl with | [_, _], _ => rfl)⟩, ⟨m50, s50, k50⟩⟩
    m_Scanner__add_place := ⟨⟨f51, _, F51, (F51.binds (ps := ["self", "mark"]) fun _ _ _ _ _ _ us hl => match us, hl with | [_, _], _ => rfl)⟩, ⟨m51, s51, k51⟩⟩
    m_Scanner__take_star := ⟨⟨f52, _, F52, (F52.binds (ps := ["self", "sign"]) fun _ _ _ _ _ _ us hl => match us, hl with | [_, _], _ => rfl)⟩, ⟨m52, s52, k52⟩⟩
    m_Scanner__close := ⟨⟨f53, _, F53, (F53.binds (ps := ["self"]) fun _ _ _ _ _ _ us hl => match us, hl with | [_], _ => rfl)⟩, ⟨m53, s53, k53⟩⟩
    m_Scanner__join := ⟨⟨f54, _, F54, (F54.binds (ps := ["self", "last", "first"]) fun _ _ _ _ _ _ us hl => match us, hl with | [_, _, _], _ => rfl)⟩, ⟨m54, s54, k54⟩⟩
    m_Scanner__row := ⟨⟨f55, _, F55, (F55.binds (ps := ["self", "parts"]) fun _ _ _ _ _ _ us hl => match us, hl with | [_, _], _ => rfl)⟩, ⟨m55, s55, k55⟩⟩
    m_Scanner__choice := ⟨⟨f56, _, F56, (F56.binds (ps := ["self", "frame"]) fun _ _ _ _ _ _ us hl => match us, hl with | [_, _], _ => rfl)⟩, ⟨m56, s56, k56⟩⟩
    m_Scanner_network := ⟨⟨f57, _, F57, (F57.binds (ps := ["self"]) fun _ _ _ _ _ _ us hl => match us, hl with | [_], _ => rfl)⟩, ⟨m57, s57, k57⟩⟩
    n_Automaton_rows := o_Automaton_rows
    n_Automaton_accepts := o_Automaton_accepts
    n_Network_marks := o_Network_marks
    n_Network_follow := o_Network_follow
    n_Network_ends := o_Network_ends
    n_Part_nullable := o_Part_nullable
    n_Part_first := o_Part_first
    n_Part_last := o_Part_last
    n_Scanner_alphabet := o_Scanner_alphabet
    n_Scanner_marks := o_Scanner_marks
    n_Scanner_follow := o_Scanner_follow
    n_Scanner_frames := o_Scanner_frames
    n_Scanner_signs := o_Scanner_signs
    n_Scanner_starred := o_Scanner_starred
    n_Pattern_alphabet := o_Pattern_alphabet
    n_Pattern_text := o_Pattern_text
    n_Pattern_network := o_Pattern_network
    n_Machine_reads := o_Machine_reads
    n_Machine_writes := o_Machine_writes
    n_Machine_left := o_Machine_left
    n_Machine_right := o_Machine_right
    n_Machine_table := o_Machine_table
    b_len := PySem.W.mg_none_of X G z_len
    b_range := PySem.W.mg_none_of X G z_range
    b_enumerate := PySem.W.mg_none_of X G z_enumerate
    b_tuple := PySem.W.mg_none_of X G z_tuple
    b_list := PySem.W.mg_none_of X G z_list
    b_sorted := PySem.W.mg_none_of X G z_sorted
    b_sum := PySem.W.mg_none_of X G z_sum
    b_max := PySem.W.mg_none_of X G z_max
    b_any := PySem.W.mg_none_of X G z_any
    b_all := PySem.W.mg_none_of X G z_all
    b_isinstance := PySem.W.mg_none_of X G z_isinstance
    b_str := PySem.W.mg_none_of X G z_str
    b_int := PySem.W.mg_none_of X G z_int
    b_bool := PySem.W.mg_none_of X G z_bool
    b_abs := PySem.W.mg_none_of X G z_abs
    t_MOST_SIGNS := t_MOST_SIGNS
    k_MOST_SIGNS := PySem.W.mg_of X G v_MOST_SIGNS
    t_STARS := t_STARS
    k_STARS := PySem.W.mg_of X G v_STARS
    t_LETTERS := t_LETTERS
    k_LETTERS := PySem.W.mg_of X G v_LETTERS
    t_MOST_LETTERS := t_MOST_LETTERS
    k_MOST_LETTERS := PySem.W.mg_of X G v_MOST_LETTERS
    t_MOST_STATES := t_MOST_STATES
    k_MOST_STATES := PySem.W.mg_of X G v_MOST_STATES }, rfl, rfl⟩⟩
  obtain ⟨T, e1, e2⟩ := T
  refine ⟨PySem.W.fnOf "law" "law" (defArgs (top 65)) (defBody (top 65)) (defScope (top 65)) .none kV41 dc41 pm41 an41 cd41 ct41, fun s v => .of_eq rfl, fun base _ _ => ?_⟩
  have := ok_law (P := l.prog) (w := w) (base := base) T
  rw [e1, e2] at this
  exact this
theorem walk {l : PySem.W.OpenLaw} {q : Program} {loose : List Str} {XP : (Str → Option Value) → Heap → Prop} {YP : World → Heap → Prop} {d : DefRec} {K : Params → PySem.W.Frag} (hn : l.most = some 63) (hdf : d.params.defaults = [])
    (hY : ∀ (w : World) (h : Heap), YP w h → (K w.params).In h)
    (F : ∀ (w : World) (mg : Str → Option Value) (fa : Addr) (h : Heap), (K w.params).In h → h.Ns mainGlobals mg → mg d.name = some (.ref fa) →
      ∃ fd : FuncData, (∀ (s : Shared) (u : Value), BindsTo s fd ⟨[u], []⟩ [("_law_script", u)]) ∧ ∀ base : Heap, (K w.params).In base → base.Ns mainGlobals mg → FnOk l.prog w (K w.params) mg base CX0 10 fa fd ["_law_script"] (spLaw (K w.params))) :
    PySem.W.WalkO q loose XP YP l.row.toRowW d [] (fun f vs => PySem.call f vs) :=
  L2.walk_of (n := 63) (k := 10) (x := "_law_script") (CX := fun _ => CX0) (sp := fun w => spLaw (K w.params)) hn (by decide) hdf ⟨rfl, by decide, by decide⟩ hY F (fun _ _ a ns hl _ hS => ⟨a, ns, rfl, hS, fun _ => rfl⟩) fun _ _ _ _ _ z => z
end K87

set_option autoImplicit true
set_option Elab.async false
set_option linter.all false
set_option maxRecDepth 100000
open PySem PySem.W PyProof.Rows
set_option maxRecDepth 100000 in
set_option maxHeartbeats 0 in
theorem PySem.Challenge.cw_foreaft_k87_whole_counts_and_preimages_holds : PySem.Challenge.rw_foreaft_k87_whole_counts_and_preimages.Holds := by
  w_on; o_law; k_head; (case hw => w_witness2)
  k_fill
  refine K87.walk (l := PySem.Challenge.rw_foreaft_k87_whole_counts_and_preimages) rfl rfl (fun w h Y => PySem.W.kIn_of Y) ?F
  case F =>
    intro w mg fa h KX G hmg
    refine' K87.all_mk KX G hmg ?a1 ?l1 ?c1 ?k1 ?a2 ?l2 ?c2 ?k2 ?a3 ?l3 ?c3 ?k3 ?a4 ?l4 ?c4 ?k4 ?a5 ?l5 ?c5 ?k5 ?a6 ?l6 ?c6 ?k6 ?a7 ?l7 ?c7 ?k7 ?a8 ?l8 ?c8 ?k8 ?a9 ?l9 ?c9 ?k9 ?a10 ?l10 ?c10 ?k10 ?a11 ?l11 ?c11 ?k11 ?a12 ?l12 ?c12 ?k12 ?a13 ?l13 ?c13 ?k13 ?a14 ?l14 ?c14 ?k14 ?a15 ?l15 ?c15 ?k15 ?a16 ?l16 ?c16 ?k16 ?a17 ?l17 ?c17 ?k17 ?a18 ?l18 ?c18 ?k18 ?a19 ?l19 ?c19 ?k19 ?a20 ?l20 ?c20 ?k20 ?a21 ?l21 ?c21 ?k21 ?a22 ?l22 ?c22 ?k22 ?a23 ?l23 ?c23 ?k23 ?a24 ?l24 ?c24 ?k24 ?a25 ?l25 ?c25 ?k25 ?a26 ?l26 ?c26 ?k26 ?a27 ?l27 ?c27 ?k27 ?a28 ?l28 ?c28 ?k28 ?a29 ?l29 ?c29 ?k29 ?a30 ?l30 ?c30 ?k30 ?a31 ?l31 ?c31 ?k31 ?a32 ?l32 ?c32 ?k32 ?a33 ?l33 ?c33 ?k33 ?a34 ?l34 ?c34 ?k34 ?a35 ?l35 ?c35 ?k35 ?a36 ?l36 ?c36 ?k36 ?a37 ?l37 ?c37 ?k37 ?a38 ?l38 ?c38 ?k38 ?a39 ?l39 ?c39 ?k39 ?a40 ?l40 ?c40 ?k40 ?a41 ?l41 ?c41 ?k41 ?nAutomaton ?pgAutomaton ?hdAutomaton ?poAutomaton ?saAutomaton ?mkAutomaton ?kcAutomaton ?iAutomaton ?sAutomaton ?l42 ?c42 ?k42 ?nNetwork ?pgNetwork ?hdNetwork ?poNetwork ?saNetwork ?mkNetwork ?kcNetwork ?iNetwork ?sNetwork ?l43 ?c43 ?k43 ?nPart ?pgPart ?hdPart ?poPart ?saPart ?mkPart ?kcPart ?iPart ?sPart ?l44 ?c44 ?k44 ?nScanner ?pgScanner ?hdScanner ?poScanner ?saScanner ?mkScanner ?kcScanner ?iScanner ?sScanner ?l45 ?c45 ?k45 ?nPattern ?pgPattern ?hdPattern ?poPattern ?saPattern ?mkPattern ?kcPattern ?iPattern ?sPattern ?l46 ?c46 ?k46 ?nMachine ?pgMachine ?hdMachine ?poMachine ?saMachine ?mkMachine ?kcMachine ?iMachine ?sMachine ?l47 ?c47 ?k47 ?m48 ?s48 ?l48 ?c48 ?k48 ?m49 ?s49 ?l49 ?c49 ?k49 ?m50 ?s50 ?l50 ?c50 ?k50 ?m51 ?s51 ?l51 ?c51 ?k51 ?m52 ?s52 ?l52 ?c52 ?k52 ?m53 ?s53 ?l53 ?c53 ?k53 ?m54 ?s54 ?l54 ?c54 ?k54 ?m55 ?s55 ?l55 ?c55 ?k55 ?m56 ?s56 ?l56 ?c56 ?k56 ?m57 ?s57 ?l57 ?c57 ?k57 ?o_Automaton_rows ?o_Automaton_accepts ?o_Network_marks ?o_Network_follow ?o_Network_ends ?o_Part_nullable ?o_Part_first ?o_Part_last ?o_Scanner_alphabet ?o_Scanner_marks ?o_Scanner_follow ?o_Scanner_frames ?o_Scanner_signs ?o_Scanner_starred ?o_Pattern_alphabet ?o_Pattern_text ?o_Pattern_network ?o_Machine_reads ?o_Machine_writes ?o_Machine_left ?o_Machine_right ?o_Machine_table ?z_len ?z_range ?z_enumerate ?z_tuple ?z_list ?z_sorted ?z_sum ?z_max ?z_any ?z_all ?z_isinstance ?z_str ?z_int ?z_bool ?z_abs ?v_MOST_SIGNS ?v_STARS ?v_LETTERS ?v_MOST_LETTERS ?v_MOST_STATES
    (case a1 => k_is)
    (case l1 => k_is)
    (case c1 => k_is)
    (case k1 => k_is)
    (case a2 => k_is)
    (case l2 => k_is)
    (case c2 => k_is)
    (case k2 => k_is)
    (case a3 => k_is)
    (case l3 => k_is)
    (case c3 => k_is)
    (case k3 => k_is)
    (case a4 => k_is)
    (case l4 => k_is)
    (case c4 => k_is)
    (case k4 => k_is)
    (case a5 => k_is)
    (case l5 => k_is)
    (case c5 => k_is)
    (case k5 => k_is)
    (case a6 => k_is)
    (case l6 => k_is)
    (case c6 => k_is)
    (case k6 => k_is)
    (case a7 => k_is)
    (case l7 => k_is)
    (case c7 => k_is)
    (case k7 => k_is)
    (case a8 => k_is)
    (case l8 => k_is)
    (case c8 => k_is)
    (case k8 => k_is)
    (case a9 => k_is)
    (case l9 => k_is)
    (case c9 => k_is)
    (case k9 => k_is)
    (case a10 => k_is)
    (case l10 => k_is)
    (case c10 => k_is)
    (case k10 => k_is)
    (case a11 => k_is)
    (case l11 => k_is)
    (case c11 => k_is)
    (case k11 => k_is)
    (case a12 => k_is)
    (case l12 => k_is)
    (case c12 => k_is)
    (case k12 => k_is)
    (case a13 => k_is)
    (case l13 => k_is)
    (case c13 => k_is)
    (case k13 => k_is)
    (case a14 => k_is)
    (case l14 => k_is)
    (case c14 => k_is)
    (case k14 => k_is)
    (case a15 => k_is)
    (case l15 => k_is)
    (case c15 => k_is)
    (case k15 => k_is)
    (case a16 => k_is)
    (case l16 => k_is)
    (case c16 => k_is)
    (case k16 => k_is)
    (case a17 => k_is)
    (case l17 => k_is)
    (case c17 => k_is)
    (case k17 => k_is)
    (case a18 => k_is)
    (case l18 => k_is)
    (case c18 => k_is)
    (case k18 => k_is)
    (case a19 => k_is)
    (case l19 => k_is)
    (case c19 => k_is)
    (case k19 => k_is)
    (case a20 => k_is)
    (case l20 => k_is)
    (case c20 => k_is)
    (case k20 => k_is)
    (case a21 => k_is)
    (case l21 => k_is)
    (case c21 => k_is)
    (case k21 => k_is)
    (case a22 => k_is)
    (case l22 => k_is)
    (case c22 => k_is)
    (case k22 => k_is)
    (case a23 => k_is)
    (case l23 => k_is)
    (case c23 => k_is)
    (case k23 => k_is)
    (case a24 => k_is)
    (case l24 => k_is)
    (case c24 => k_is)
    (case k24 => k_is)
    (case a25 => k_is)
    (case l25 => k_is)
    (case c25 => k_is)
    (case k25 => k_is)
    (case a26 => k_is)
    (case l26 => k_is)
    (case c26 => k_is)
    (case k26 => k_is)
    (case a27 => k_is)
    (case l27 => k_is)
    (case c27 => k_is)
    (case k27 => k_is)
    (case a28 => k_is)
    (case l28 => k_is)
    (case c28 => k_is)
    (case k28 => k_is)
    (case a29 => k_is)
    (case l29 => k_is)
    (case c29 => k_is)
    (case k29 => k_is)
    (case a30 => k_is)
    (case l30 => k_is)
    (case c30 => k_is)
    (case k30 => k_is)
    (case a31 => k_is)
    (case l31 => k_is)
    (case c31 => k_is)
    (case k31 => k_is)
    (case a32 => k_is)
    (case l32 => k_is)
    (case c32 => k_is)
    (case k32 => k_is)
    (case a33 => k_is)
    (case l33 => k_is)
    (case c33 => k_is)
    (case k33 => k_is)
    (case a34 => k_is)
    (case l34 => k_is)
    (case c34 => k_is)
    (case k34 => k_is)
    (case a35 => k_is)
    (case l35 => k_is)
    (case c35 => k_is)
    (case k35 => k_is)
    (case a36 => k_is)
    (case l36 => k_is)
    (case c36 => k_is)
    (case k36 => k_is)
    (case a37 => k_is)
    (case l37 => k_is)
    (case c37 => k_is)
    (case k37 => k_is)
    (case a38 => k_is)
    (case l38 => k_is)
    (case c38 => k_is)
    (case k38 => k_is)
    (case a39 => k_is)
    (case l39 => k_is)
    (case c39 => k_is)
    (case k39 => k_is)
    (case a40 => k_is)
    (case l40 => k_is)
    (case c40 => k_is)
    (case k40 => k_is)
    (case a41 => k_is)
    (case l41 => k_is)
    (case c41 => k_is)
    (case k41 => k_is)
    (case nAutomaton => k_is)
    (case pgAutomaton => k_is)
    (case hdAutomaton => k_is)
    (case poAutomaton => k_is)
    (case saAutomaton => k_is)
    (case mkAutomaton => k_is)
    (case kcAutomaton => k_is)
    (case iAutomaton => k_is)
    (case sAutomaton => k_is)
    (case l42 => k_is)
    (case c42 => k_is)
    (case k42 => k_is)
    (case nNetwork => k_is)
    (case pgNetwork => k_is)
    (case hdNetwork => k_is)
    (case poNetwork => k_is)
    (case saNetwork => k_is)
    (case mkNetwork => k_is)
    (case kcNetwork => k_is)
    (case iNetwork => k_is)
    (case sNetwork => k_is)
    (case l43 => k_is)
    (case c43 => k_is)
    (case k43 => k_is)
    (case nPart => k_is)
    (case pgPart => k_is)
    (case hdPart => k_is)
    (case poPart => k_is)
    (case saPart => k_is)
    (case mkPart => k_is)
    (case kcPart => k_is)
    (case iPart => k_is)
    (case sPart => k_is)
    (case l44 => k_is)
    (case c44 => k_is)
    (case k44 => k_is)
    (case nScanner => k_is)
    (case pgScanner => k_is)
    (case hdScanner => k_is)
    (case poScanner => k_is)
    (case saScanner => k_is)
    (case mkScanner => k_is)
    (case kcScanner => k_is)
    (case iScanner => k_is)
    (case sScanner => k_is)
    (case l45 => k_is)
    (case c45 => k_is)
    (case k45 => k_is)
    (case nPattern => k_is)
    (case pgPattern => k_is)
    (case hdPattern => k_is)
    (case poPattern => k_is)
    (case saPattern => k_is)
    (case mkPattern => k_is)
    (case kcPattern => k_is)
    (case iPattern => k_is)
    (case sPattern => k_is)
    (case l46 => k_is)
    (case c46 => k_is)
    (case k46 => k_is)
    (case nMachine => k_is)
    (case pgMachine => k_is)
    (case hdMachine => k_is)
    (case poMachine => k_is)
    (case saMachine => k_is)
    (case mkMachine => k_is)
    (case kcMachine => k_is)
    (case iMachine => k_is)
    (case sMachine => k_is)
    (case l47 => k_is)
    (case c47 => k_is)
    (case k47 => k_is)
    (case m48 => k_is)
    (case s48 => k_is)
    (case l48 => k_is)
    (case c48 => k_is)
    (case k48 => k_is)
    (case m49 => k_is)
    (case s49 => k_is)
    (case l49 => k_is)
    (case c49 => k_is)
    (case k49 => k_is)
    (case m50 => k_is)
    (case s50 => k_is)
    (case l50 => k_is)
    (case c50 => k_is)
    (case k50 => k_is)
    (case m51 => k_is)
    (case s51 => k_is)
    (case l51 => k_is)
    (case c51 => k_is)
    (case k51 => k_is)
    (case m52 => k_is)
    (case s52 => k_is)
    (case l52 => k_is)
    (case c52 => k_is)
    (case k52 => k_is)
    (case m53 => k_is)
    (case s53 => k_is)
    (case l53 => k_is)
    (case c53 => k_is)
    (case k53 => k_is)
    (case m54 => k_is)
    (case s54 => k_is)
    (case l54 => k_is)
    (case c54 => k_is)
    (case k54 => k_is)
    (case m55 => k_is)
    (case s55 => k_is)
    (case l55 => k_is)
    (case c55 => k_is)
    (case k55 => k_is)
    (case m56 => k_is)
    (case s56 => k_is)
    (case l56 => k_is)
    (case c56 => k_is)
    (case k56 => k_is)
    (case m57 => k_is)
    (case s57 => k_is)
    (case l57 => k_is)
    (case c57 => k_is)
    (case k57 => k_is)
    (case o_Automaton_rows => k_is)
    (case o_Automaton_accepts => k_is)
    (case o_Network_marks => k_is)
    (case o_Network_follow => k_is)
    (case o_Network_ends => k_is)
    (case o_Part_nullable => k_is)
    (case o_Part_first => k_is)
    (case o_Part_last => k_is)
    (case o_Scanner_alphabet => k_is)
    (case o_Scanner_marks => k_is)
    (case o_Scanner_follow => k_is)
    (case o_Scanner_frames => k_is)
    (case o_Scanner_signs => k_is)
    (case o_Scanner_starred => k_is)
    (case o_Pattern_alphabet => k_is)
    (case o_Pattern_text => k_is)
    (case o_Pattern_network => k_is)
    (case o_Machine_reads => k_is)
    (case o_Machine_writes => k_is)
    (case o_Machine_left => k_is)
    (case o_Machine_right => k_is)
    (case o_Machine_table => k_is)
    (case z_len => k_is)
    (case z_range => k_is)
    (case z_enumerate => k_is)
    (case z_tuple => k_is)
    (case z_list => k_is)
    (case z_sorted => k_is)
    (case z_sum => k_is)
    (case z_max => k_is)
    (case z_any => k_is)
    (case z_all => k_is)
    (case z_isinstance => k_is)
    (case z_str => k_is)
    (case z_int => k_is)
    (case z_bool => k_is)
    (case z_abs => k_is)
    (case v_MOST_SIGNS => k_is)
    (case v_STARS => k_is)
    (case v_LETTERS => k_is)
    (case v_MOST_LETTERS => k_is)
    (case v_MOST_STATES => k_is)
