import PyProof.Rows.All
import Wide.All
import OpenK.AllK
import Wide.FinOn
import HandS.ForMost
import HandS.Conv
import HandS.DictComp
import HandS.IsInst
import HandS.Codes
import PyProof.TupleOfSeq
import PySem.Challenge.RW_turnedrows_k06_whole_nexts_none_fewer
set_option Elab.async false
set_option linter.all false
set_option maxRecDepth 100000
namespace NX
/-- neighbors at the places i and i + 1 exchanged -/
def sw : List Int → Nat → List Int
  | a :: b :: l, 0 => b :: a :: l
  | a :: l, i + 1 => a :: sw l i
  | l, _ => l
/-- pairs in the wrong order -/
def inv : List Int → Nat
  | [] => 0
  | a :: l => l.countP (fun b => decide (b < a)) + inv l
theorem sw_nil (i : Nat) : sw [] i = [] := by cases i <;> rfl
theorem sw_one (a : Int) (i : Nat) : sw [a] i = [a] := by
  cases i with
  | zero => rfl
  | succ i =>
    show a :: sw [] i = [a]
    rw [sw_nil]
theorem sw_zero (a b : Int) (l : List Int) : sw (a :: b :: l) 0 = b :: a :: l := rfl
theorem sw_succ (a : Int) (l : List Int) (i : Nat) : sw (a :: l) (i + 1) = a :: sw l i := by
  cases l with
  | nil =>
    rw [sw_nil]
    exact sw_one a (i + 1)
  | cons b l => rfl
theorem sw_perm : ∀ (l : List Int) (i : Nat), (sw l i).Perm l
  | [], i => by rw [sw_nil]
  | [a], 0 => List.Perm.refl _
  | a :: b :: l, 0 => List.Perm.swap a b l
  | a :: l, i + 1 => by
    rw [sw_succ]
    exact (sw_perm l i).cons a
theorem sw_len (l : List Int) (i : Nat) : (sw l i).length = l.length := (sw_perm l i).length_eq
theorem sw_sw : ∀ (l : List Int) (i : Nat), sw (sw l i) i = l
  | [], i => by rw [sw_nil, sw_nil]
  | [a], 0 => rfl
  | a :: b :: l, 0 => rfl
  | a :: l, i + 1 => by rw [sw_succ, sw_succ, sw_sw l i]
theorem sw_map (f : Int → Int) : ∀ (l : List Int) (i : Nat), (sw l i).map f = sw (l.map f) i
  | [], i => by rw [sw_nil, List.map_nil, sw_nil]
  | [a], 0 => rfl
  | a :: b :: l, 0 => rfl
  | a :: l, i + 1 => by rw [sw_succ, List.map_cons, List.map_cons, sw_succ, sw_map f l i]
theorem sw_set : ∀ (l : List Int) (i : Nat) (a b : Int), l[i]? = some a → l[i + 1]? = some b → (l.set i b).set (i + 1) a = sw l i
  | [], i, a, b, h, _ => by simp at h
  | [x], 0, a, b, _, h2 => by simp at h2
  | x :: y :: l, 0, a, b, h1, h2 => by
    have e1 : x = a := Option.some.inj h1
    have e2 : y = b := Option.some.inj h2
    subst e1
    subst e2
    rfl
  | x :: l, i + 1, a, b, h1, h2 => by
    rw [sw_succ, ← sw_set l i a b (by simpa using h1) (by simpa using h2)]
    rfl
theorem inv_cons (a : Int) (l : List Int) : inv (a :: l) = l.countP (fun b => decide (b < a)) + inv l := rfl
theorem inv_swap (a b : Int) (l : List Int) : inv (a :: b :: l) + (if a < b then 1 else 0) = inv (b :: a :: l) + (if b < a then 1 else 0) := by
  rw [inv_cons, inv_cons, inv_cons, inv_cons, List.countP_cons, List.countP_cons]
  simp only [decide_eq_true_eq]
  split <;> split <;> omega
theorem inv_desc : ∀ (l : List Int) (i : Nat) (a b : Int), l[i]? = some a → l[i + 1]? = some b → b < a → inv l = inv (sw l i) + 1
  | [], i, a, b, h, _, _ => by simp at h
  | [x], 0, a, b, _, h2, _ => by simp at h2
  | x :: y :: l, 0, a, b, h1, h2, h => by
    have e1 : x = a := Option.some.inj h1
    have e2 : y = b := Option.some.inj h2
    subst e1
    subst e2
    have q := inv_swap x y l
    rw [if_neg (by omega), if_pos h] at q
    rw [sw_zero]
    omega
  | x :: l, i + 1, a, b, h1, h2, h => by
    have ih := inv_desc l i a b (by simpa using h1) (by simpa using h2) h
    rw [sw_succ, inv_cons, inv_cons, (sw_perm l i).countP_eq, ih]
    omega
theorem inv_sw_le : ∀ (l : List Int) (i : Nat), inv l ≤ inv (sw l i) + 1
  | [], i => by
    rw [sw_nil]
    exact Nat.zero_le _
  | [x], i => by
    rw [sw_one]
    exact Nat.le_succ _
  | x :: y :: l, 0 => by
    have q := inv_swap x y l
    rw [sw_zero]
    revert q
    split <;> split <;> intro q <;> omega
  | x :: y :: l, i + 1 => by
    have ih := inv_sw_le (y :: l) i
    rw [sw_succ, inv_cons x (y :: l), inv_cons x (sw (y :: l) i), (sw_perm (y :: l) i).countP_eq]
    omega
/-- moves done one after the other -/
def run (l : List Int) (ms : List Nat) : List Int := ms.foldl sw l
theorem run_nil (l : List Int) : run l [] = l := rfl
theorem run_cons (l : List Int) (i : Nat) (ms : List Nat) : run l (i :: ms) = run (sw l i) ms := rfl
theorem run_snoc (l : List Int) (i : Nat) (ms : List Nat) : run l (ms ++ [i]) = sw (run l ms) i := by
  unfold run
  rw [List.foldl_append]
  rfl
theorem run_map (f : Int → Int) : ∀ (ms : List Nat) (l : List Int), (run l ms).map f = run (l.map f) ms
  | [], l => rfl
  | i :: ms, l => by rw [run_cons, run_cons, run_map f ms, sw_map]
theorem run_perm : ∀ (ms : List Nat) (l : List Int), (run l ms).Perm l
  | [], l => List.Perm.refl _
  | i :: ms, l => by
    rw [run_cons]
    exact (run_perm ms _).trans (sw_perm l i)
theorem run_len (l : List Int) (ms : List Nat) : (run l ms).length = l.length := (run_perm ms l).length_eq
theorem run_back : ∀ (ms : List Nat) (l : List Int), run (run l ms) ms.reverse = l
  | [], l => rfl
  | i :: ms, l => by rw [run_cons, List.reverse_cons, run_snoc, run_back ms, sw_sw]
theorem inv_run : ∀ (ms : List Nat) (l : List Int), inv l ≤ inv (run l ms) + ms.length
  | [], l => Nat.le_refl _
  | i :: ms, l => by
    have h1 := inv_sw_le l i
    have h2 := inv_run ms (sw l i)
    rw [run_cons, List.length_cons]
    omega
theorem inv_sorted : ∀ (l : List Int), l.Pairwise (· ≤ ·) → inv l = 0
  | [], _ => rfl
  | a :: l, h => by
    obtain ⟨h1, h2⟩ := List.pairwise_cons.mp h
    rw [inv_cons, inv_sorted l h2, List.countP_eq_zero.mpr]
    intro b hb hd
    have := of_decide_eq_true hd
    have := h1 b hb
    omega
theorem inv_le : ∀ (l : List Int), inv l ≤ l.length * l.length
  | [] => Nat.le_refl _
  | a :: l => by
    have h1 := inv_le l
    have h2 : l.countP (fun b => decide (b < a)) ≤ l.length := List.countP_le_length
    rw [inv_cons, List.length_cons, Nat.add_mul, Nat.mul_add]
    omega
/-- no descent of neighbors: the row ascends -/
theorem up_of_steps : ∀ (l : List Int), (∀ i a b, l[i]? = some a → l[i + 1]? = some b → a ≤ b) → l.Pairwise (· ≤ ·)
  | [], _ => List.Pairwise.nil
  | [a], _ => List.pairwise_singleton _ a
  | a :: b :: l, h => by
    have ih := up_of_steps (b :: l) fun i x y h1 h2 => h (i + 1) x y (by simpa using h1) (by simpa using h2)
    have hab : a ≤ b := h 0 a b rfl rfl
    refine List.pairwise_cons.mpr ⟨fun x hx => ?_, ih⟩
    rcases List.mem_cons.mp hx with e | e
    · rw [e]
      exact hab
    · exact Int.le_trans hab ((List.pairwise_cons.mp ih).1 x e)
/-- the numbers 1 to n -/
def ups (n : Nat) : List Int := (List.range n).map fun k => ((k : Nat) : Int) + 1
theorem ups_len (n : Nat) : (ups n).length = n := by
  unfold ups
  rw [List.length_map, List.length_range]
theorem ups_get {n k : Nat} (h : k < n) : (ups n)[k]? = some ((k : Int) + 1) := by
  unfold ups
  rw [List.getElem?_map, List.getElem?_range h]
  rfl
theorem ups_up (n : Nat) : (ups n).Pairwise (· ≤ ·) := by
  unfold ups
  refine List.pairwise_map.mpr (List.Pairwise.imp ?_ (List.pairwise_lt_range (n := n)))
  intro a b h
  omega
theorem ups_nodup (n : Nat) : (ups n).Nodup := by
  unfold ups
  refine List.pairwise_map.mpr (List.Pairwise.imp ?_ (List.pairwise_lt_range (n := n)))
  intro a b h
  omega
theorem ups_mem {n : Nat} {x : Int} (h : x ∈ ups n) : 1 ≤ x ∧ x ≤ (n : Int) := by
  unfold ups at h
  obtain ⟨k, hk, e⟩ := List.mem_map.mp h
  have := List.mem_range.mp hk
  omega
/-- a plain row of n pieces -/
def Row (n : Nat) (r : List Int) : Prop := r.Perm (ups n)
theorem Row.len {n : Nat} {r : List Int} (h : Row n r) : r.length = n := by rw [List.Perm.length_eq h, ups_len]
theorem Row.nodup {n : Nat} {r : List Int} (h : Row n r) : r.Nodup := (List.Perm.nodup_iff h).mpr (ups_nodup n)
theorem Row.run {n : Nat} {r : List Int} (h : Row n r) (ms : List Nat) : Row n (NX.run r ms) := (run_perm ms r).trans h
theorem Row.sw {n : Nat} {r : List Int} (h : Row n r) (i : Nat) : Row n (NX.sw r i) := (sw_perm r i).trans h
theorem two_up {l m : List Int} (h : l.Perm m) (hl : l.Pairwise (· ≤ ·)) (hm : m.Pairwise (· ≤ ·)) : l = m :=
  h.eq_of_pairwise (fun _ _ _ _ h1 h2 => Int.le_antisymm h1 h2) hl hm
/-- the relative row -/
def rel (f s : List Int) : List Int := f.map fun p => ((s.idxOf p : Nat) : Int) + 1
theorem rel_len (f s : List Int) : (rel f s).length = f.length := by
  unfold rel
  rw [List.length_map]
theorem idx_at : ∀ (s : List Int), s.Nodup → ∀ (k : Nat) (x : Int), s[k]? = some x → s.idxOf x = k
  | [], _, k, x, h => by simp at h
  | a :: s, hn, 0, x, h => by
    have e : a = x := Option.some.inj h
    rw [e]
    exact List.idxOf_cons_self
  | a :: s, hn, k + 1, x, h => by
    obtain ⟨h1, h2⟩ := List.nodup_cons.mp hn
    have hx : s[k]? = some x := by simpa using h
    have hne : a ≠ x := fun e => h1 (by
      rw [e]
      exact List.mem_of_getElem? hx)
    rw [List.idxOf_cons, beq_false_of_ne hne, idx_at s h2 k x hx]
    rfl
theorem idx_get {s : List Int} {x : Int} (h : x ∈ s) : s[s.idxOf x]? = some x := by
  have hl := List.idxOf_lt_length_of_mem h
  rw [List.getElem?_eq_getElem hl, List.getElem_idxOf hl]
theorem rel_self {s : List Int} (h : s.Nodup) : rel s s = ups s.length := by
  refine List.ext_getElem? fun k => ?_
  by_cases hk : k < s.length
  · rw [ups_get hk]
    unfold rel
    rw [List.getElem?_map, List.getElem?_eq_getElem hk]
    show some (((s.idxOf s[k] : Nat) : Int) + 1) = some _
    rw [idx_at s h k _ (List.getElem?_eq_getElem hk)]
  · rw [List.getElem?_eq_none (by rw [rel_len]; omega), List.getElem?_eq_none (by rw [ups_len]; omega)]
theorem rel_run (f s : List Int) (ms : List Nat) : rel (run f ms) s = run (rel f s) ms := run_map _ ms f
theorem rel_inj {f s : List Int} (hm : ∀ x ∈ f, x ∈ s) (hl : f.length = s.length) (h : rel f s = ups s.length) : f = s := by
  refine List.ext_getElem? fun k => ?_
  by_cases hk : k < s.length
  · have e := congrArg (fun l : List Int => l[k]?) h
    have e1 : (rel f s)[k]? = some ((k : Int) + 1) := e.trans (ups_get hk)
    unfold rel at e1
    have hk2 : k < f.length := by omega
    rw [List.getElem?_map, List.getElem?_eq_getElem hk2] at e1
    have e2 : ((s.idxOf f[k] : Nat) : Int) + 1 = (k : Int) + 1 := Option.some.inj e1
    have e3 : s.idxOf f[k] = k := by omega
    have e4 := idx_get (hm f[k] (List.getElem_mem hk2))
    rw [e3] at e4
    rw [e4, List.getElem?_eq_getElem hk2]
  · rw [List.getElem?_eq_none (by omega), List.getElem?_eq_none (by omega)]
theorem rel_row {n : Nat} {f s : List Int} (hf : Row n f) (hs : Row n s) : Row n (rel f s) := by
  have h1 : (rel f s).Perm (rel s s) := List.Perm.map _ (List.Perm.trans hf (List.Perm.symm hs))
  rw [rel_self hs.nodup, hs.len] at h1
  exact h1
/-- a script that sorts the relative row leads the first row to the second one -/
theorem leads {n : Nat} {f s : List Int} (hf : Row n f) (hs : Row n s) {ms : List Nat} (h : (run (rel f s) ms).Pairwise (· ≤ ·)) : run f ms = s := by
  have hp : (run (rel f s) ms).Perm (ups n) := Row.run (rel_row hf hs) ms
  have e := two_up hp h (ups_up n)
  rw [← rel_run, ← hs.len] at e
  have hr : (run f ms).Perm s := List.Perm.trans (Row.run hf ms) (List.Perm.symm hs)
  exact rel_inj (fun x hx => hr.mem_iff.mp hx) hr.length_eq e
theorem inv_self {n : Nat} {s : List Int} (hs : Row n s) : inv (rel s s) = 0 := by
  rw [rel_self hs.nodup]
  exact inv_sorted _ (ups_up _)
/-- no script that leads there is shorter -/
theorem fewest {n : Nat} {f s : List Int} (hs : Row n s) {ms : List Nat} (h : run f ms = s) : inv (rel f s) ≤ ms.length := by
  have q := inv_run ms (rel f s)
  rw [← rel_run, h, inv_self hs] at q
  omega
theorem fewest_back {n : Nat} {f s : List Int} (hf : Row n f) {ms : List Nat} (h : run f ms = s) : inv (rel s f) ≤ ms.length := by
  have e : run s ms.reverse = f := by rw [← h, run_back]
  have q := fewest hf e
  rw [List.length_reverse] at q
  exact q
theorem inv_rel_le {n : Nat} {f s : List Int} (hf : Row n f) : inv (rel f s) ≤ n * n := by
  have q := inv_le (rel f s)
  rw [rel_len, hf.len] at q
  exact q
/-! ### the count of wrong pairs, place by place -/
theorem inv_drop {r : List Int} {p : Nat} {a : Int} (h : r[p]? = some a) : inv (r.drop p) = (r.drop (p + 1)).countP (fun b => decide (b < a)) + inv (r.drop (p + 1)) := by
  obtain ⟨hl, e⟩ := List.getElem?_eq_some_iff.mp h
  rw [List.drop_eq_getElem_cons hl, e, inv_cons]
theorem count_drop {r : List Int} {q : Nat} {a b : Int} (h : r[q]? = some b) : (r.drop q).countP (fun x => decide (x < a)) = (r.drop (q + 1)).countP (fun x => decide (x < a)) + (if b < a then 1 else 0) := by
  obtain ⟨hl, e⟩ := List.getElem?_eq_some_iff.mp h
  rw [List.drop_eq_getElem_cons hl, e, List.countP_cons]
  simp only [decide_eq_true_eq]
end NX
namespace NX
open PySem PySem.Spec PyProof.Rows L2
/-! ### the text by places -/
def topS (i : Nat) : Stmt := PySem.Challenge.pw_turnedrows_k06_whole_nexts_none_fewer.main.body.getD i (.Pass ⟨0, 0, 0, 0⟩)
abbrev sCheck : Stmt := topS 5
abbrev sSame : Stmt := topS 6
abbrev sRel : Stmt := topS 7
abbrev sSwapped : Stmt := topS 9
abbrev sWrong : Stmt := topS 11
abbrev sLeast : Stmt := topS 12
abbrev sScript : Stmt := topS 13
abbrev sCell : Stmt := topS 15
abbrev sDigits : Stmt := topS 16
abbrev sRich : Stmt := topS 17
abbrev sRow : Stmt := topS 18
abbrev sMove : Stmt := topS 19
abbrev sMoved : Stmt := topS 20
abbrev sIsInt : Stmt := topS 21
abbrev sLeads : Stmt := topS 22
abbrev sLaw : Stmt := topS 23
/-! ### what the walk asks of the module's names -/
structure Txt (mg : Str → Option Value) : Prop where
  len : mg "len" = none
  sorted : mg "sorted" = none
  list : mg "list" = none
  range : mg "range" = none
  tuple : mg "tuple" = none
  int : mg "int" = none
  bool : mg "bool" = none
  isinstance : mg "isinstance" = none
  most : ∃ t, mg "MOST_PIECES" = some (.int 40 t)
/-- a def that may be called by its name, no default in it -/
abbrev Cal (P : Program) (w : World) (K : PySem.W.Frag) (mg : Str → Option Value) (base : Heap) (k : Nat) (x : Str) (sp : Sp) : Prop := C8.Cal P w K mg base k x sp []
/-! ### heaps -/
theorem same_upd {H : Hp} {p : Addr} {o : HO} (h : H p = none) : Same H (upd H p o) := fun b x e => by
  rw [upd_ne (ne_of_none e h)]
  exact e
theorem same_upd2 {H H' : Hp} {p : Addr} {o : HO} (s : Same H H') (h : H p = none) : Same H (upd H' p o) := fun b x e => by
  rw [upd_ne (ne_of_none e h)]
  exact s _ _ e
theorem sqt_same {K : PySem.W.Frag} {H H' : Hp} {a : Addr} {xs : List V} (e : Same H H') (h : SqT K H a xs) : SqT K H' a xs :=
  h.imp (fun h => h.imp (fun q => e a _ q) fun ⟨o, q⟩ => ⟨o, e a _ q⟩) id
theorem line_small {n : Nat} (h : n ≤ 2000) : n < sizeLine := Nat.lt_of_le_of_lt h (by decide)
theorem line_small' {n : Nat} (h : n ≤ 2000) : n ≤ sizeLine := Nat.le_of_lt (line_small h)
theorem map_get {r : List Int} {i : Nat} {x : Int} (h : r[i]? = some x) : (r.map V.int)[i]? = some (.int x) := by
  rw [List.getElem?_map, h]
  rfl
theorem get_map {r : List Int} {i : Nat} {v : V} (h : (r.map V.int)[i]? = some v) : ∃ x, v = .int x ∧ r[i]? = some x := by
  rw [List.getElem?_map] at h
  cases e : r[i]? with
  | none =>
    rw [e] at h
    cases h
  | some x =>
    rw [e] at h
    exact ⟨x, (Option.some.inj h).symm, rfl⟩
/-! ### sorted of a tuple of ints -/
/-- over the bare heap: m is the heap when its items are taken, g the heap at the end -/
theorem sorted_bare {prog : Program} {w : World} {A : Around} {E : Value → Shared → Prop} {s : Shared} {a : Addr} {o : Obj} {its : List Value} {n : Nat} {ns : List Int} {Q : Value → Shared → Prop}
    (here : s.heap.get? a = some o) (cl : o.cls = .type "tuple") (dt : o.data = .seq its.toArray n) (ivs : IntsAre its ns) (few : its.length < 64)
    (then_ : ∀ (m g : Heap) (out : Array Value) (e : Nat) (ys : List Int), (∀ b u, s.heap.get? b = some u → m.get? b = some u) → (∀ b u, m.get? b = some u → g.get? b = some u) →
      g.get? m.objs.size = some (seqObj "list" out e) → IntsAre out.toList ys → ys.Perm ns → ys.Pairwise (· ≤ ·) → Q (.ref m.objs.size) { s with heap := g }) :
    wpAny (model prog w) A (call (.builtin "sorted") [.ref a]) Q E s := by
  have fits : its.length ≤ sizeLine := Nat.le_trans (Nat.le_of_lt few) (by decide)
  apply Calls.call_function_entry kind_sorted plain_sorted entry_sorted (args_sorted1 _)
  unfold Builtin.«sorted»
  apply wpAny_bind (m := checkCount "sorted" 1 1 _)
  apply wpAny_pure
  apply wpAny_bind
  apply PySem.wpAny_collect_seq a (.inr rfl) here cl dt (hsz := by rw [List.size_toArray]; exact fits)
  intro m keep
  apply wpAny_bind
  refine wpAny_newList (hsz := fits) ?_
  have new : (m.push (seqObj "list" its.toArray 0)).get? m.objs.size = some (seqObj "list" its.toArray 0) := Heap.get?_push_size _ rfl
  apply wpAny_bind
  apply wpAny_holding
  refine wpAny_call_entry (s := { s with heap := m.push (seqObj "list" its.toArray 0) }) slot_list_sort ⟨_, new, rfl⟩ entry_list_sort (list_sort_tree new ivs few fun out ys i1 i2 i3 => ⟨.none, rfl, ?_⟩) (args_list_sort _)
  obtain ⟨e, there⟩ := sortedHeap_at (out := out) new
  apply wpAny_pure
  refine ⟨_, rfl, then_ m _ out e ys keep (fun b u q => ?_) there i1 i2 i3⟩
  have old := Heap.lt_size q
  have q2 : (m.push (seqObj "list" its.toArray 0)).get? b = some u := Heap.get?_push_of_some _ q
  exact (sortedHeap_old (Nat.ne_of_lt old) (Heap.lt_size q2)).trans q2
theorem cr_sortedTup {X : Cx} : CallR X (.builtin "sorted") (fun vs H Q => ∃ (a : Addr) (ns : List Int), vs = [V.ref a] ∧ SqT X.K H a (ns.map V.int) ∧ ns.length < 64 ∧
    ∀ (ns' : List Int) (p : Addr), ns'.Perm ns → ns'.Pairwise (· ≤ ·) → H p = none → Q (.ref p) (upd H p (.lst (ns'.map V.int)))) := by
  rintro pins s σ H _ us Q I given ⟨a, ns, rfl, tup, few, q⟩
  obtain ⟨its, rel, ⟨o, here, cl, n, dt⟩, _⟩ := I.tuple tup
  have ivs : IntsAre its ns := rel.ints
  rw [Vals.ref1 given]
  refine sorted_bare here cl dt ivs (by rw [ivs.length]; exact few) fun m g out e ys k1 k2 there i1 i2 i3 => ?_
  have J : Inv X pins σ H { s with heap := m, toks := s.toks } := I.kept k1
  have size : (ys.map V.int).length ≤ sizeLine := by
    rw [List.length_map, i2.length_eq]
    exact line_small' (by omega)
  have ob : ObjOk X.prog X.w (upd H m.objs.size (.lst (ys.map V.int))) g m.objs.size (.lst (ys.map V.int)) := ⟨size, out.toList, e, vals_of_ints i1, there⟩
  exact ⟨.ref m.objs.size, _, J.laid (t' := s.toks) k2 (Nat.le_refl _) ob, rfl, q ys _ i2 i3 (J.hok.fresh (Nat.le_refl _))⟩
/-! ### data of ints -/
theorem dp_ints {K : PySem.W.Frag} {H : Hp} (ns : List Int) : DpAll K H (ns.map V.int) (ns.map PyData.int) := by
  induction ns with
  | nil => exact .nil
  | cons n ns ih => exact .cons (.int n) ih
theorem ints_shapedL (ns : List Int) : SeqAt.shaped (.list (ns.map PyData.int)) = true := PySem.W.shaped_ints ns
theorem ints_shapedT (ns : List Int) : SeqAt.shaped (.tuple (ns.map PyData.int)) = true := by
  have deep := PySem.W.depthAll_ints ns
  have lay := PySem.W.canLayAll0_ints ns
  unfold SeqAt.shaped
  rw [Bool.and_eq_true]
  exact ⟨by simp only [PyData.canLay0]; exact lay, decide_eq_true (by simp only [PyData.depth]; omega)⟩
theorem ints_eqvL (ns : List Int) : PyData.eqv (.list (ns.map PyData.int)) (.list (ns.map PyData.int)) = true :=
  SeqAt.eqv_refl _ (by simp only [PyData.canLay0]; exact PySem.W.canLayAll0_ints ns)
theorem ints_eqvT (ns : List Int) : PyData.eqv (.tuple (ns.map PyData.int)) (.tuple (ns.map PyData.int)) = true :=
  SeqAt.eqv_refl _ (by simp only [PyData.canLay0]; exact PySem.W.canLayAll0_ints ns)
end NX
namespace NX
open PySem PySem.Spec PyProof.Rows L2
section
variable {P : Program} {w : World} {K : PySem.W.Frag} {mg : Str → Option Value} {base : Heap}
/-! ### check_row -/
theorem scCheck : FnScope ["row", "n"] ["row"] (defScope sCheck) := ⟨rfl, rfl, rfl, by decide +kernel, rfl, by decide +kernel, by decide +kernel⟩
def spCheck (K : PySem.W.Frag) : Sp := fun vs H Q _ => ∃ (a : Addr) (n : Nat) (r : List Int), vs = [.ref a] ∧ SqT K H a (r.map V.int) ∧ Row n r ∧ n ≤ 40 ∧ ∀ H', Same H H' → Q (.ref a) H'
theorem rgV_ups (n : Nat) : rgV 1 ((n : Int) + 1) = (ups n).map V.int := by
  unfold rgV ups
  rw [show ((n : Int) + 1 - 1).toNat = n by omega, List.map_map]
  refine List.map_congr_left fun k _ => ?_
  show V.int (1 + (k : Int)) = V.int ((k : Int) + 1)
  rw [Int.add_comm]
theorem ok_check {f : Addr} {fd : FuncData} (F : Fun K "check_row" "check_row" sCheck f fd) (T : Txt mg) : FnOk P w K mg base CX0 1 f fd ["row"] (spCheck K) := by
  obtain ⟨mt, hmt⟩ := T.most
  refine F.ok scCheck (fun vs H Q E h => ?_) (fun cdv A outer s H vs Q E hr h => ?_)
  · obtain ⟨a, n, r, rfl, _⟩ := h
    rfl
  · obtain ⟨a, n, r, rfl, hS, hR, hn, q⟩ := h
    have hl : r.length = n := hR.len
    refine ⟨_, pss_cons (ps_set (i := 1) scCheck.nd rfl (.inl rfl) (pe_callB call_len_seq (by rfl) T.len PySem.boot_len (pa_cons (pv 0) pa_nil)))
      (pss_cons (ps_if (PW.pt (pw_or (pt_cmpR op_gt (pv 1) (pe_glob (v := .int 40) (by rfl) hmt ⟨_, rfl⟩) (nomark _))
          (pw_or1 (pt_cmpR (op_neD hr.units) (pe_callB cr_sortedTup (by rfl) T.sorted boot_sorted (pa_cons (pv 0) pa_nil))
            (pe_listRg rfl (by rfl) T.list (prg_2 (by rfl) T.range pe_int (pe_op op_add (pv 1) pe_int))) (nomark _)))))
        (pss_one ps_never) pss_nil)
      (pss_one (ps_ret (pv 0)))), ?_⟩
    refine ⟨.ref a, rfl, a, _, rfl, .inr hS, ?_⟩
    rw [List.length_map, hl]
    refine ⟨_, rfl, _, _, rfl, rfl, _, rfl, ?_⟩
    rw [decide_eq_false (show ¬ (40 : Int) < ((n : Nat) : Int) by omega)]
    refine iteF ?_
    refine ⟨.ref a, rfl, a, r, rfl, hS, by omega, fun ns' p pm up np => ?_⟩
    refine ⟨_, rfl, _, _, rfl, rfl, 1, _, rfl, rfl, RgOk.of_le (by decide) (by omega) (by decide) (by omega), fun b nb => ?_⟩
    rw [rgV_ups]
    have e : ns' = ups n := two_up (pm.trans hR) up (ups_up n)
    subst e
    have s1 : Same H (upd H p (.lst ((ups n).map V.int))) := same_upd np
    refine ⟨.list ((ups n).map PyData.int), .list ((ups n).map PyData.int), .lst ((same_upd nb).seq (SqL.of upd_same)) (dp_ints _), .lst (SqL.of upd_same) (dp_ints _), ints_shapedL _, ints_shapedL _, _, rfl, ?_⟩
    rw [ints_eqvL]
    refine iteF ?_
    exact ⟨.ref a, rfl, q _ (s1.trans (same_upd nb))⟩
/-! ### need_same_length -/
theorem scSame : FnScope ["first", "second"] ["first", "second"] (defScope sSame) := ⟨rfl, rfl, rfl, by decide +kernel, rfl, by decide +kernel, by decide +kernel⟩
def spSame (K : PySem.W.Frag) : Sp := fun vs H Q _ => ∃ (a b : Addr) (r t : List V), vs = [.ref a, .ref b] ∧ SqT K H a r ∧ SqT K H b t ∧ r.length = t.length ∧ ∀ H', Same H H' → Q .non H'
theorem ok_same {f : Addr} {fd : FuncData} (F : Fun K "need_same_length" "need_same_length" sSame f fd) (T : Txt mg) : FnOk P w K mg base CX0 1 f fd ["first", "second"] (spSame K) := by
  refine F.ok scSame (fun vs H Q E h => ?_) (fun cdv A outer s H vs Q E hr h => ?_)
  · obtain ⟨a, b, r, t, rfl, _⟩ := h
    rfl
  · obtain ⟨a, b, r, t, rfl, hA, hB, hl, q⟩ := h
    refine ⟨_, pss_one (ps_if (pt_cmpR op_ne (pe_callB call_len_seq (by rfl) T.len PySem.boot_len (pa_cons (pv 0) pa_nil)) (pe_callB call_len_seq (by rfl) T.len PySem.boot_len (pa_cons (pv 1) pa_nil)) (nomark _))
        (pss_one ps_never) pss_nil), ?_⟩
    refine ⟨.ref a, rfl, a, r, rfl, .inr hA, .ref b, rfl, b, t, rfl, .inr hB, rfl, _, rfl, ?_⟩
    refine iteNS (by rw [hl]) ?_
    exact q _ (Same.refl H)
/-! ### swapped -/
theorem scSwapped : FnScope ["row", "i", "j", "cells"] ["row", "i", "j"] (defScope sSwapped) := ⟨rfl, rfl, rfl, by decide +kernel, rfl, by decide +kernel, by decide +kernel⟩
def spSwapped (K : PySem.W.Frag) : Sp := fun vs H Q _ => ∃ (a : Addr) (r : List Int) (i : Nat), vs = [.ref a, .int (i : Int), .int ((i : Int) + 1)] ∧ SqT K H a (r.map V.int) ∧ i + 1 < r.length ∧ r.length ≤ 40 ∧
  ∀ H' p, Same H H' → H p = none → H' p = some (.tup ((sw r i).map V.int)) → Q (.ref p) H'
theorem ixN_nat {n j : Nat} {i : Int} (e : i = (j : Int)) (h : j < n) : ixN n i = some j := by
  unfold ixN
  rw [if_pos (by omega), if_pos (by omega)]
  rw [e]
  rfl
theorem set_map (r : List Int) (i : Nat) (x : Int) : (r.map V.int).set i (.int x) = (r.set i x).map V.int := by
  rw [List.map_set]
theorem ok_swapped {f : Addr} {fd : FuncData} (F : Fun K "swapped" "swapped" sSwapped f fd) (T : Txt mg) : FnOk P w K mg base CX0 1 f fd ["row", "i", "j"] (spSwapped K) := by
  refine F.ok scSwapped (fun vs H Q E h => ?_) (fun cdv A outer s H vs Q E hr h => ?_)
  · obtain ⟨a, r, i, rfl, _⟩ := h
    rfl
  · obtain ⟨a, r, i, rfl, hS, hi, hl, q⟩ := h
    obtain ⟨x, hx⟩ : ∃ x, r[i]? = some x := ⟨_, List.getElem?_eq_getElem (by omega)⟩
    obtain ⟨y, hy⟩ : ∃ y, r[i + 1]? = some y := ⟨_, List.getElem?_eq_getElem (by omega)⟩
    refine ⟨_, pss_cons (ps_set (i := 3) scSwapped.nd rfl (.inl rfl) (pe_callTy call_list_of (by rfl) T.list boot_list (pa_cons (pv 0) pa_nil)))
      (pss_cons (ps_asg (pe_tup (pa_cons (pe_ix ix_list (pv 3) (pv 2) (fun _ _ => rfl)) (pa_cons (pe_ix ix_list (pv 3) (pv 1) (fun _ _ => rfl)) pa_nil)))
        (pg_tup (by rfl) (pgs_cons (pg_sub (pv 3) (pv 1) set_list) (pgs_cons (pg_sub (pv 3) (pv 2) set_list) pgs_nil))))
      (pss_one (ps_ret (pe_callTy call_tuple_of (by rfl) T.tuple boot_tuple (pa_cons (pv 3) pa_nil))))), ?_⟩
    -- cells = list(row)
    refine ⟨.ref a, rfl, a, _, rfl, .inr hS, fun l nl => ?_⟩
    -- cells[j], cells[i]
    have e1 : ((i : Int) + 1) = ((i + 1 : Nat) : Int) := by omega
    refine ⟨.ref l, rfl, _, rfl, l, _, _, _, rfl, rfl, SqL.of upd_same, at_of e1 (map_get hy), .ref l, rfl, _, rfl, l, _, _, _, rfl, rfl, SqL.of upd_same, at_of rfl (map_get hx), (by show 2 ≤ sizeLine; decide), fun t nt => ?_⟩
    have nlt : l ≠ t := fun e => by
      rw [← e, upd_same] at nt
      cases nt
    refine ⟨t, [.int y, .int x], rfl, SqT.of upd_same, rfl, _, _, rfl, .ref l, rfl, _, rfl, ?_⟩
    refine ⟨l, _, _, i, rfl, rfl, (upd_ne nlt).trans upd_same, ixN_nat rfl (by rw [List.length_map]; omega), ?_⟩
    refine ⟨_, _, rfl, .ref l, rfl, _, rfl, l, _, _, i + 1, rfl, rfl, upd_same, ixN_nat e1 (by rw [List.length_set, List.length_map]; omega), rfl, ?_⟩
    refine ⟨.ref l, rfl, l, _, rfl, .inl ⟨SqL.of upd_same, fun p np => ?_⟩⟩
    have nl' : H l = none := nl
    have nlp : p ≠ l := fun e => by
      rw [e, upd_same] at np
      cases np
    have nt' : H t = none := by
      rw [upd_ne nlt.symm] at nt
      exact nt
    have s3 : Same H (upd (upd (upd (upd H l (.lst (r.map V.int))) t (.tup [.int y, .int x])) l (.lst ((r.map V.int).set i (.int y)))) l (.lst (((r.map V.int).set i (.int y)).set (i + 1) (.int x)))) :=
      same_upd2 (same_upd2 (same_upd2 (same_upd nl') nt') nl') nl'
    refine q _ p (s3.trans (same_upd np)) (s3.free np) ?_
    rw [upd_same, set_map, set_map, sw_set r i x y hx hy]
end
end NX
namespace NX
open PySem PySem.Spec PyProof.Rows L2
section
variable {P : Program} {w : World} {K : PySem.W.Frag} {mg : Str → Option Value} {base : Heap}
/-! ### wrong_pairs -/
theorem scWrong : FnScope ["row", "found", "p", "q"] ["row"] (defScope sWrong) := ⟨rfl, rfl, rfl, by decide +kernel, rfl, by decide +kernel, by decide +kernel⟩
def spWrong (K : PySem.W.Frag) : Sp := fun vs H Q _ => ∃ (a : Addr) (r : List Int), vs = [.ref a] ∧ SqT K H a (r.map V.int) ∧ r.length ≤ 40 ∧
  ∀ H' p ys, Same H H' → H p = none → H' p = some (.tup ys) → ys.length = inv r → Q (.ref p) H'
theorem inv_small {r : List Int} (h : r.length ≤ 40) : inv r ≤ 1600 := Nat.le_trans (inv_le r) (Nat.mul_le_mul h h)
theorem ok_wrong {f : Addr} {fd : FuncData} (F : Fun K "wrong_pairs" "wrong_pairs" sWrong f fd) (T : Txt mg) : FnOk P w K mg base CX0 1 f fd ["row"] (spWrong K) := by
  refine F.ok scWrong (fun vs H Q E h => ?_) (fun cdv A outer s H vs Q E hr h => ?_)
  · obtain ⟨a, r, rfl, _⟩ := h
    rfl
  · obtain ⟨a, r, rfl, hS, hl, q⟩ := h
    have hsm := inv_small hl
    have hlm : (r.map V.int).length = r.length := List.length_map _
    refine ⟨_, pss_cons (ps_set (i := 1) scWrong.nd rfl (.inl rfl) (pe_lst pa_nil))
      (pss_cons (ps_for PassesOwn.never rfl (pi_range1 (by rfl) T.range (pa_cons (pe_callB call_len_seq (by rfl) T.len PySem.boot_len (pa_cons (pv 0) pa_nil)) pa_nil)) (pg_name (i := 2) scWrong.nd rfl (.inl rfl))
        (pss_one (ps_for PassesOwn.never rfl (pi_range2 (by rfl) T.range (pa_cons (pe_op op_add (pv 2) pe_int) (pa_cons (pe_callB call_len_seq (by rfl) T.len PySem.boot_len (pa_cons (pv 0) pa_nil)) pa_nil))) (pg_name (i := 3) scWrong.nd rfl (.inl rfl))
          (pss_one (ps_if (pt_cmpR op_gt (pe_ix ix_tup (pv 0) (pv 2) (fun _ _ => rfl)) (pe_ix ix_tup (pv 0) (pv 3) (fun _ _ => rfl)) (nomark _))
            (pss_one (ps_expr (pe_bm PySem.F.plainAttrs_list PySem.F.slot_list_append PySem.F.type_list_append mt_append (pv 1) (pa_cons (pe_tup (pa_cons (pv 2) (pa_cons (pv 3) pa_nil))) pa_nil)))) pss_nil)))))
      (pss_one (ps_ret (pe_callTy call_tuple_of (by rfl) T.tuple boot_tuple (pa_cons (pv 1) pa_nil))))), ?_⟩
    refine ⟨Nat.zero_le _, fun o no => ?_⟩
    have s0 : Same H (upd H o (.lst [])) := same_upd no
    refine ⟨.ref a, rfl, a, _, rfl, .inr (sqt_same s0 hS), _, rfl, by omega, by omega, ?_⟩
    rw [hlm, Int.toNat_natCast]
    refine for_range (lo := 0) (n := r.length) (fun p σ H' => ∃ y2 y3 ys, σ = [some (.ref a), some (.ref o), y2, y3] ∧ Same H H' ∧ H' o = some (.lst ys) ∧ ys.length + inv (r.drop p) = inv r)
      ⟨none, none, [], rfl, s0, upd_same, by simp⟩ ?_ ?_
    · rintro p σ H1 hp ⟨y2, y3, ys, rfl, s1, ho, hi⟩
      rw [Int.zero_add]
      obtain ⟨x, hx⟩ : ∃ x, r[p]? = some x := ⟨_, List.getElem?_eq_getElem hp⟩
      refine ⟨_, rfl, _, _, rfl, rfl, .ref a, rfl, a, _, rfl, .inr (sqt_same s1 hS), _, _, rfl, ⟨by omega, by omega, by omega, by omega⟩, ?_⟩
      rw [show (((r.map V.int).length : Int) - ((p : Int) + 1)).toNat = r.length - (p + 1) by omega]
      refine for_range (lo := (p : Int) + 1) (n := r.length - (p + 1)) (fun k σ H' => ∃ y3 ys, σ = [some (.ref a), some (.ref o), some (.int (p : Int)), y3] ∧ Same H H' ∧ H' o = some (.lst ys) ∧ ys.length + (r.drop (p + 1 + k)).countP (fun b => decide (b < x)) + inv (r.drop (p + 1)) = inv r)
        ⟨y3, ys, rfl, s1, ho, by rw [Nat.add_zero, ← hi, inv_drop hx]; omega⟩ ?_ ?_
      · rintro k σ H2 hk ⟨y3, ys, rfl, s2, ho, hi⟩
        have hq : p + 1 + k < r.length := by omega
        obtain ⟨y, hy⟩ : ∃ y, r[p + 1 + k]? = some y := ⟨_, List.getElem?_eq_getElem hq⟩
        have eq : ((p : Int) + 1 + (k : Int)) = ((p + 1 + k : Nat) : Int) := by omega
        rw [count_drop hy] at hi
        have hA := sqt_same s2 hS
        refine ⟨.ref a, rfl, .int (p : Int), rfl, a, _, _, _, rfl, rfl, hA, at_of rfl (map_get hx), .ref a, rfl, .int ((p : Int) + 1 + (k : Int)), rfl, a, _, _, _, rfl, rfl, hA, at_of eq (map_get hy), x, y, rfl, rfl, _, rfl, ?_⟩
        refine ite2 (fun e => ?_) (fun e => ?_)
        · have hyx : y < x := of_decide_eq_true e
          rw [if_pos hyx] at hi
          refine ⟨.ref o, rfl, .inl ⟨rfl, _, SqL.of ho⟩, _, rfl, _, rfl, (by show 2 ≤ sizeLine; decide), fun t nt => ?_⟩
          have nto : o ≠ t := ne_of_none ho nt
          have ho' : (upd H2 t (.tup [.int (p : Int), .int ((p : Int) + 1 + (k : Int))])) o = some (.lst ys) := by
            rw [upd_ne nto]
            exact ho
          refine ⟨o, ys, _, rfl, rfl, ho', line_small (by omega), ?_⟩
          refine ⟨some (.int ((p : Int) + 1 + (k : Int))), _, rfl, same_upd2 (s2.trans (same_upd nt)) no, upd_same, ?_⟩
          rw [List.length_append, List.length_singleton, ← hi]
          show _ + (List.countP _ (List.drop (p + 1 + k + 1) r)) + _ = _
          omega
        · have hyx : ¬ y < x := fun z => e (decide_eq_true z)
          rw [if_neg hyx] at hi
          exact ⟨some (.int ((p : Int) + 1 + (k : Int))), ys, rfl, s2, ho, by rw [← hi]; rfl⟩
      · rintro σ H2 ⟨y3, ys, rfl, s2, ho, hi⟩
        rw [show p + 1 + (r.length - (p + 1)) = r.length by omega, List.drop_length] at hi
        exact ⟨some (.int (p : Int)), y3, ys, rfl, s2, ho, hi⟩
    · rintro σ H1 ⟨y2, y3, ys, rfl, s1, ho, hi⟩
      rw [List.drop_length] at hi
      refine ⟨.ref o, rfl, o, ys, rfl, .inl ⟨SqL.of ho, fun p np => ?_⟩⟩
      exact q _ p ys (s1.trans (same_upd np)) (s1.free np) upd_same hi
/-! ### _law_cell -/
theorem scCell : FnScope ["_law_script", "_law_k"] ["_law_script", "_law_k"] (defScope sCell) := ⟨rfl, rfl, rfl, by decide +kernel, rfl, by decide +kernel, by decide +kernel⟩
def spLCell (K : PySem.W.Frag) : Sp := fun vs H Q _ => ∃ (a : Addr) (ns : List Int) (j : Nat), vs = [.ref a, .int (j : Int)] ∧ SqL K H a (ns.map V.int) ∧ ∀ c, Q (.int c) H
theorem ok_cell {f : Addr} {fd : FuncData} (F : Fun K "_law_cell" "_law_cell" sCell f fd) (T : Txt mg) : FnOk P w K mg base CX0 1 f fd ["_law_script", "_law_k"] (spLCell K) := by
  refine F.ok scCell (fun vs H Q E h => ?_) (fun cdv A outer s H vs Q E hr h => ?_)
  · obtain ⟨a, ns, j, rfl, _⟩ := h
    rfl
  · obtain ⟨a, ns, j, rfl, hS, q⟩ := h
    refine ⟨_, pss_cons (ps_if (pt_cmpR op_lt (pv 1) (pe_callB call_len_seq (by rfl) T.len PySem.boot_len (pa_cons (pv 0) pa_nil)) (nomark _))
        (pss_one (ps_ret (pe_ix ix_list (pv 0) (pv 1) (fun _ _ => rfl)))) pss_nil) (pss_one (ps_ret pe_int)), ?_⟩
    refine ⟨_, rfl, .ref a, rfl, a, _, rfl, .inl hS, _, _, rfl, rfl, _, rfl, ?_⟩
    refine ite2 (fun e => ?_) (fun e => ?_)
    · have hj := of_decide_eq_true e
      rw [List.length_map] at hj
      have hj : j < ns.length := by omega
      exact ⟨.ref a, rfl, _, rfl, a, _, _, _, rfl, rfl, hS, at_of rfl (map_get (List.getElem?_eq_getElem hj)), q _⟩
    · exact q _
/-! ### _law_rich -/
theorem scRich : FnScope ["_law_cell_here", "_law_low", "_law_high"] ["_law_cell_here"] (defScope sRich) := ⟨rfl, rfl, rfl, by decide +kernel, rfl, by decide +kernel, by decide +kernel⟩
def spRich : Sp := fun vs H Q _ => ∃ (c : Int), vs = [.int c] ∧ ∀ z, Q (.int z) H
theorem ok_rich {f : Addr} {fd : FuncData} (F : Fun K "_law_rich" "_law_rich" sRich f fd) (T : Txt mg) : FnOk P w K mg base CX0 1 f fd ["_law_cell_here"] spRich := by
  refine F.ok scRich (fun vs H Q E h => ?_) (fun cdv A outer s H vs Q E hr h => ?_)
  · obtain ⟨c, rfl, _⟩ := h
    rfl
  · obtain ⟨c, rfl, q⟩ := h
    refine ⟨_, pss_cons (ps_if (pt_cmpR op_ge (pv 0) (pe_op op_pow pe_int pe_int) (nomark _)) (pss_one (ps_ret (pv 0))) pss_nil)
      (pss_cons (ps_set (i := 1) scRich.nd rfl (.inl rfl) (pe_op op_mod (pe_callTy call_int1 (by rfl) T.int boot_int (pa_cons (pe_op op_add (pe_op op_mul (pv 0) pe_int) pe_int) pa_nil)) pe_int))
      (pss_cons (ps_set (i := 2) scRich.nd rfl (.inl rfl) (pe_op op_mod (pe_callTy call_int1 (by rfl) T.int boot_int (pa_cons (pe_op op_add (pe_op op_add (pe_op op_mul (pv 1) pe_int) (pe_op op_fdiv (pv 0) pe_int)) pe_int) pa_nil)) pe_int))
      (pss_one (ps_ret (pe_op op_add (pe_op op_mul (pv 1) pe_int) (pv 2)))))), ?_⟩
    refine ⟨_, rfl, 10, 18, rfl, rfl, ⟨by decide, by decide, by decide⟩, _, _, rfl, rfl, _, rfl, ?_⟩
    refine ite2 (fun _ => ⟨_, rfl, q _⟩) (fun _ => ?_)
    refine ⟨_, rfl, _, _, rfl, rfl, .inr ⟨by decide, by decide⟩, _, _, rfl, rfl, .inl ⟨_, rfl, ?_⟩⟩
    refine ⟨_, _, rfl, rfl, (by show (0 : Int) < 2147483647; decide), ?_⟩
    refine ⟨_, rfl, _, _, rfl, rfl, .inr ⟨by decide, by decide⟩, _, rfl, _, _, rfl, rfl, ⟨by decide, by decide⟩, _, _, rfl, rfl, _, _, rfl, rfl, .inl ⟨_, rfl, ?_⟩⟩
    refine ⟨_, _, rfl, rfl, (by show (0 : Int) < 2147483629; decide), ?_⟩
    refine ⟨_, rfl, _, _, rfl, rfl, .inr ⟨by decide, by decide⟩, _, rfl, _, _, rfl, rfl, ?_⟩
    exact q _
end
end NX
namespace NX
open PySem PySem.Spec PyProof.Rows L2
/-! ### lists -/
theorem erase_perm : ∀ (l : List Int) (k : Nat) (x : Int), l[k]? = some x → (x :: l.eraseIdx k).Perm l
  | [], k, x, h => by simp at h
  | a :: l, 0, x, h => by
    have e : a = x := Option.some.inj h
    subst e
    exact List.Perm.refl _
  | a :: l, k + 1, x, h => by
    have ih := erase_perm l k x (by simpa using h)
    exact (List.Perm.swap a x (l.eraseIdx k)).trans (ih.cons a)
theorem erase_map : ∀ (l : List Int) (k : Nat), (l.map V.int).eraseIdx k = (l.eraseIdx k).map V.int
  | [], k => rfl
  | a :: l, 0 => rfl
  | a :: l, k + 1 => by
    show V.int a :: (l.map V.int).eraseIdx k = V.int a :: (l.eraseIdx k).map V.int
    rw [erase_map l k]
theorem snoc_map (l : List Int) (x : Int) : l.map V.int ++ [V.int x] = (l ++ [x]).map V.int := by
  rw [List.map_append]
  rfl
theorem ups_succ (n : Nat) : ups (n + 1) = ups n ++ [(n : Int) + 1] := by
  unfold ups
  rw [List.range_succ, List.map_append]
  rfl
theorem seq_nat {n j : Nat} {i : Int} (e : i = (j : Int)) (h : j < n) : seqIndex? i n = some j := (ixN_seq (ixN_nat e h)).1
section
variable {P : Program} {w : World} {K : PySem.W.Frag} {mg : Str → Option Value} {base : Heap}
/-! ### _law_digits -/
theorem scDigits : FnScope ["_law_cell_here", "_law_sizes", "_law_row_here", "_law_size"] ["_law_cell_here", "_law_sizes"] (defScope sDigits) := ⟨rfl, rfl, rfl, by decide +kernel, rfl, by decide +kernel, by decide +kernel⟩
def spDigits (K : PySem.W.Frag) : Sp := fun vs H Q _ => ∃ (c : Int) (b : Addr) (zs : List Int), vs = [.int c, .ref b] ∧ SqL K H b (zs.map V.int) ∧ zs.length ≤ 10 ∧ (∀ z ∈ zs, 0 < z ∧ z < 1073741824) ∧
  ∀ (H' : Hp) (p : Addr) (ds : List Int), Same H H' → H p = none → H' p = some (.lst (ds.map V.int)) → ds.length = zs.length → (∀ (j : Nat) (d z : Int), ds[j]? = some d → zs[j]? = some z → 0 ≤ d ∧ d < z) → Q (.ref p) H'
theorem ok_digits {f : Addr} {fd : FuncData} (F : Fun K "_law_digits" "_law_digits" sDigits f fd) (T : Txt mg) : FnOk P w K mg base CX0 1 f fd ["_law_cell_here", "_law_sizes"] (spDigits K) := by
  refine F.ok scDigits (fun vs H Q E h => ?_) (fun cdv A outer s H vs Q E hr h => ?_)
  · obtain ⟨c, b, zs, rfl, _⟩ := h
    rfl
  · obtain ⟨c, b, zs, rfl, hB, hz, hzs, q⟩ := h
    refine ⟨_, pss_cons (ps_set (i := 2) scDigits.nd rfl (.inl rfl) (pe_lst pa_nil))
      (pss_cons (ps_for PassesOwn.never rfl (pi_list (pv 1)) (pg_name (i := 3) scDigits.nd rfl (.inl rfl))
        (pss_cons (ps_expr (pe_bm PySem.F.plainAttrs_list PySem.F.slot_list_append PySem.F.type_list_append mt_append (pv 2) (pa_cons (pe_op op_mod (pe_callTy call_int1 (by rfl) T.int boot_int (pa_cons (pv 0) pa_nil)) (pv 3)) pa_nil)))
        (pss_one (ps_set (i := 0) scDigits.nd rfl (.inl rfl) (pe_op op_fdiv (pv 0) (pv 3))))))
      (pss_one (ps_ret (pv 2)))), ?_⟩
    refine ⟨Nat.zero_le _, fun o no => ?_⟩
    have s0 : Same H (upd H o (.lst [])) := same_upd no
    refine ⟨_, rfl, b, rfl, ⟨_, s0.seq hB⟩, ?_⟩
    refine for_list (K := K) (a := b) (xs := zs.map V.int) (fun i σ H' => ∃ (c : Int) (y3 : Option V) (ds : List Int), σ = [some (.int c), some (.ref b), some (.ref o), y3] ∧ Same H H' ∧ H' o = some (.lst (ds.map V.int)) ∧ ds.length = i ∧ ∀ (j : Nat) (d z : Int), ds[j]? = some d → zs[j]? = some z → 0 ≤ d ∧ d < z)
      ⟨c, none, [], rfl, s0, upd_same, rfl, fun j d z h => by simp at h⟩ (fun i σ H' _ ⟨_, _, _, _, s1, _⟩ => s1.seq hB) ?_ ?_
    · rintro i y σ H1 hy ⟨c, y3, ds, rfl, s1, ho, hl, hd⟩
      obtain ⟨z, rfl, hzi⟩ := get_map hy
      obtain ⟨z0, z1⟩ := hzs z (List.mem_of_getElem? hzi)
      have hi : i < zs.length := (List.getElem?_eq_some_iff.mp hzi).1
      refine ⟨.ref o, rfl, .inl ⟨rfl, _, SqL.of ho⟩, _, rfl, .inl ⟨_, rfl, ?_⟩⟩
      refine ⟨.int z, rfl, _, _, rfl, rfl, z0, o, _, _, rfl, rfl, ho, line_small (by rw [List.length_map]; omega), ?_⟩
      refine ⟨_, rfl, .int z, rfl, _, _, rfl, rfl, ⟨z0, z1⟩, ?_⟩
      refine ⟨_, some (.int z), ds ++ [c % z], rfl, same_upd2 s1 no, ?_, by rw [List.length_append, List.length_singleton, hl], fun j d u h1 h2 => ?_⟩
      · rw [upd_same, snoc_map]
      · by_cases hj : j < ds.length
        · rw [List.getElem?_append_left hj] at h1
          exact hd j d u h1 h2
        · rw [List.getElem?_append_right (by omega)] at h1
          have hj0 : j - ds.length = 0 := by
            have := (List.getElem?_eq_some_iff.mp h1).1
            rw [List.length_singleton] at this
            omega
          rw [hj0] at h1
          have ed : c % z = d := Option.some.inj h1
          have ej : j = i := by omega
          rw [ej, hzi] at h2
          have eu : z = u := Option.some.inj h2
          subst eu
          rw [← ed]
          exact ⟨Int.emod_nonneg _ (by omega), Int.emod_lt_of_pos _ z0⟩
    · rintro σ H1 ⟨c, y3, ds, rfl, s1, ho, hl, hd⟩
      rw [List.length_map] at hl
      exact ⟨.ref o, rfl, q H1 o ds s1 no ho hl hd⟩
/-! ### _law_row -/
theorem scRow : FnScope ["_law_cell_here", "_law_n", "_law_k", "_law_left", "_law_rest", "_law_row_here"] ["_law_cell_here", "_law_n"] (defScope sRow) := ⟨rfl, rfl, rfl, by decide +kernel, rfl, by decide +kernel, by decide +kernel⟩
def spRow : Sp := fun vs H Q _ => ∃ (c : Int) (n : Nat), vs = [.int c, .int (n : Int)] ∧ n ≤ 40 ∧ ∀ H' p r, Same H H' → H p = none → H' p = some (.tup (r.map V.int)) → Row n r → Q (.ref p) H'
theorem ok_row {f : Addr} {fd : FuncData} (F : Fun K "_law_row" "_law_row" sRow f fd) (T : Txt mg) (CR : Cal P w K mg base 1 "_law_rich" spRich) : FnOk P w K mg base CX0 2 f fd ["_law_cell_here", "_law_n"] spRow := by
  refine F.ok scRow (fun vs H Q E h => ?_) (fun cdv A outer s H vs Q E hr h => ?_)
  · obtain ⟨c, n, rfl, _⟩ := h
    rfl
  · obtain ⟨c, n, rfl, hn, q⟩ := h
    refine ⟨_, pss_cons (ps_setLc (i := 3) (own := [("_law_k", 2)]) (g := gName 2) (tt := tYes) rfl scRow.nd rfl rfl (sw_true rfl rfl rfl (by decide +kernel)) (pi_range1 (by rfl) T.range (pa_cons (pv 1) pa_nil))
        (blkOk_by (N := ["_law_cell_here", "_law_n", "_law_k", "_law_left", "_law_rest", "_law_row_here"]) (sc := defScope sRow) (by decide +kernel)) (fun _ _ _ _ _ => pg_name (i := 2) scRow.nd rfl (.inl rfl)) (fun _ _ _ _ _ => pts_nil) (fun _ _ _ _ _ => pe_op op_add (pv 2) pe_int))
      (pss_cons (ps_set (i := 4) scRow.nd rfl (.inl rfl) (C8.pe_c CR hr (by decide) (by rfl) (pa_cons (pv 0) pa_nil)))
      (pss_cons (ps_set (i := 5) scRow.nd rfl (.inl rfl) (pe_lst pa_nil))
      (pss_cons (ps_for PassesOwn.never rfl (pi_range1 (by rfl) T.range (pa_cons (pv 1) pa_nil)) (pg_name (i := 2) scRow.nd rfl (.inl rfl))
        (pss_cons (ps_expr (pe_bm PySem.F.plainAttrs_list PySem.F.slot_list_append PySem.F.type_list_append mt_append (pv 5)
            (pa_cons (pe_bm PySem.F.plainAttrs_list PySem.F.slot_list_pop PySem.F.type_list_pop mt_popAt (pv 3) (pa_cons (pe_op op_mod (pe_callTy call_int1 (by rfl) T.int boot_int (pa_cons (pv 4) pa_nil)) (pe_op op_sub (pv 1) (pv 2))) pa_nil)) pa_nil)))
        (pss_one (ps_set (i := 4) scRow.nd rfl (.inl rfl) (pe_op op_fdiv (pv 4) (pe_op op_sub (pv 1) (pv 2)))))))
      (pss_one (ps_ret (pe_callTy call_tuple_of (by rfl) T.tuple boot_tuple (pa_cons (pv 5) pa_nil))))))), ?_⟩
    refine ⟨_, rfl, (n : Int), rfl, by omega, by omega, fun l nl => ?_⟩
    rw [Int.toNat_natCast]
    refine lc_range (lo := 0) (n := n) (fun i H' => Same H H' ∧ H' l = some (.lst ((ups i).map V.int))) ⟨same_upd nl, upd_same⟩ ?_ ?_
    · rintro i H1 hi ⟨s1, hL⟩
      refine ⟨rfl, ?_⟩
      refine ⟨_, rfl, _, _, rfl, rfl, _, hL, line_small (by rw [List.length_map, ups_len]; omega), same_upd2 s1 nl, ?_⟩
      rw [upd_same, snoc_map, ups_succ, Int.zero_add]
    · rintro H1 ⟨s1, hL⟩
      refine ⟨.int c, rfl, c, rfl, fun z => ?_⟩
      refine ⟨Nat.zero_le _, fun o no => ?_⟩
      have no' : H o = none := s1.free no
      have nlo : l ≠ o := ne_of_none hL no
      refine ⟨_, rfl, (n : Int), rfl, by omega, by omega, ?_⟩
      rw [Int.toNat_natCast]
      refine for_range (lo := 0) (n := n) (fun i σ H' => ∃ (rest : Int) (y2 : Option V) (acc left : List Int), σ = [some (.int c), some (.int (n : Int)), y2, some (.ref l), some (.int rest), some (.ref o)] ∧ Same H H' ∧ H' l = some (.lst (left.map V.int)) ∧ H' o = some (.lst (acc.map V.int)) ∧ acc.length = i ∧ (acc ++ left).Perm (ups n))
        ⟨z, none, [], ups n, rfl, same_upd2 s1 no', by rw [upd_ne nlo]; exact hL, upd_same, rfl, List.Perm.refl _⟩ ?_ ?_
      · rintro i σ H2 hi ⟨rest, y2, acc, left, rfl, s2, hl, ho, ha, pm⟩
        rw [Int.zero_add]
        have hll : left.length = n - i := by
          have := pm.length_eq
          rw [List.length_append, ups_len, ha] at this
          omega
        have hpos : (0 : Int) < (n : Int) - (i : Int) := by omega
        have m0 : 0 ≤ rest % ((n : Int) - (i : Int)) := Int.emod_nonneg _ (by omega)
        have m1 : rest % ((n : Int) - (i : Int)) < (n : Int) - (i : Int) := Int.emod_lt_of_pos _ hpos
        obtain ⟨k, hk⟩ : ∃ k : Nat, rest % ((n : Int) - (i : Int)) = (k : Int) := ⟨(rest % ((n : Int) - (i : Int))).toNat, by omega⟩
        have hkl : k < left.length := by omega
        obtain ⟨x, hx⟩ : ∃ x, left[k]? = some x := ⟨_, List.getElem?_eq_getElem hkl⟩
        refine ⟨.ref o, rfl, .inl ⟨rfl, _, SqL.of ho⟩, .ref l, rfl, .inl ⟨rfl, _, SqL.of hl⟩, _, rfl, .inl ⟨_, rfl, ?_⟩⟩
        refine ⟨_, rfl, _, rfl, _, _, rfl, rfl, _, _, rfl, rfl, hpos, ?_⟩
        refine ⟨l, _, _, k, .int x, rfl, rfl, hl, by omega, by omega, seq_nat hk (by rw [List.length_map]; exact hkl), map_get hx, ?_⟩
        have nlo2 : o ≠ l := fun e => nlo e.symm
        refine ⟨o, _, _, rfl, rfl, (upd_ne nlo2).trans ho, line_small (by rw [List.length_map]; omega), ?_⟩
        refine ⟨_, rfl, _, rfl, _, rfl, _, _, rfl, rfl, _, _, rfl, rfl, ⟨hpos, by omega⟩, ?_⟩
        refine ⟨_, some (.int (i : Int)), acc ++ [x], left.eraseIdx k, rfl, same_upd2 (same_upd2 s2 nl) no', ?_, ?_, by rw [List.length_append, List.length_singleton, ha], ?_⟩
        · rw [upd_ne nlo, upd_same, erase_map]
        · rw [upd_same, snoc_map]
        · rw [List.append_assoc]
          exact (List.Perm.append_left acc (erase_perm left k x hx)).trans pm
      · rintro σ H2 ⟨rest, y2, acc, left, rfl, s2, hl, ho, ha, pm⟩
        have hll : left = [] := by
          have := pm.length_eq
          rw [List.length_append, ups_len, ha] at this
          exact List.length_eq_zero_iff.mp (by omega)
        rw [hll, List.append_nil] at pm
        refine ⟨.ref o, rfl, o, _, rfl, .inl ⟨SqL.of ho, fun p np => ?_⟩⟩
        exact q _ p acc (s2.trans (same_upd np)) (s2.free np) upd_same pm
end
end NX
namespace NX
open PySem PySem.Spec PyProof.Rows L2
/-! ### the dict of the places -/
def prs : List Int → Nat → List (Key × V)
  | [], _ => []
  | x :: l, m => (Sum.inl x, V.int ((m : Int) + 1)) :: prs l (m + 1)
theorem prs_snoc (x : Int) : ∀ (l : List Int) (m : Nat), prs (l ++ [x]) m = prs l m ++ [(Sum.inl x, V.int (((m + l.length : Nat) : Int) + 1))]
  | [], m => rfl
  | a :: l, m => by
    show (Sum.inl a, V.int ((m : Int) + 1)) :: prs (l ++ [x]) (m + 1) = (Sum.inl a, V.int ((m : Int) + 1)) :: (prs l (m + 1) ++ _)
    rw [prs_snoc x l (m + 1), List.length_cons, show m + 1 + l.length = m + (l.length + 1) by omega]
theorem prs_len : ∀ (l : List Int) (m : Nat), (prs l m).length = l.length
  | [], m => rfl
  | a :: l, m => by
    show (prs l (m + 1)).length + 1 = l.length + 1
    rw [prs_len l (m + 1)]
theorem prs_out {x : Int} : ∀ (l : List Int) (m : Nat), x ∉ l → ((prs l m).any fun kv => decide (kv.1 = (Sum.inl x : Key))) = false
  | [], m, _ => rfl
  | a :: l, m, h => by
    show (decide ((Sum.inl a : Key) = Sum.inl x) || (prs l (m + 1)).any fun kv => decide (kv.1 = (Sum.inl x : Key))) = false
    rw [prs_out l (m + 1) (fun z => h (List.mem_cons_of_mem _ z)), Bool.or_false]
    refine decide_eq_false fun e => h ?_
    have e2 : a = x := Sum.inl.inj e
    rw [e2]
    exact List.mem_cons_self
theorem prs_put {x : Int} {l : List Int} (h : x ∉ l) : putK (prs l 0) (Sum.inl x) (V.int ((l.length : Int) + 1)) = prs (l ++ [x]) 0 := by
  unfold putK
  rw [prs_out l 0 h, if_neg (by decide), prs_snoc, Nat.zero_add]
theorem prs_get {x : Int} : ∀ (l : List Int) (m : Nat), x ∈ l → valV (prs l m) (Sum.inl x) = some (V.int (((m + l.idxOf x : Nat) : Int) + 1))
  | [], m, h => by simp at h
  | a :: l, m, h => by
    show valV ((Sum.inl a, V.int ((m : Int) + 1)) :: prs l (m + 1)) (Sum.inl x) = _
    by_cases e : a = x
    · subst e
      rw [valV_pos rfl, List.idxOf_cons_self]
      rfl
    · have hm : x ∈ l := by
        rcases List.mem_cons.mp h with z | z
        · exact absurd z.symm e
        · exact z
      rw [valV_neg (fun z => e (Sum.inl.inj z)), prs_get l (m + 1) hm, List.idxOf_cons, beq_false_of_ne e]
      show some (V.int (((m + 1 + l.idxOf x : Nat) : Int) + 1)) = some (V.int (((m + (l.idxOf x + 1) : Nat) : Int) + 1))
      rw [show m + 1 + l.idxOf x = m + (l.idxOf x + 1) by omega]
theorem take_snoc {l : List Int} {i : Nat} {x : Int} (h : l[i]? = some x) : l.take (i + 1) = l.take i ++ [x] := by
  rw [List.take_add_one, h]
  rfl
theorem nodup_take {l : List Int} (hn : l.Nodup) {i : Nat} {x : Int} (h : l[i]? = some x) : x ∉ l.take i := by
  intro hm
  obtain ⟨j, hj, e⟩ := List.getElem_of_mem hm
  rw [List.length_take] at hj
  have h2 : l[j]? = some x := by
    rw [List.getElem?_eq_getElem (by omega), ← e, List.getElem_take]
  have := nd_ix hn h h2
  omega
section
variable {P : Program} {w : World} {K : PySem.W.Frag} {mg : Str → Option Value} {base : Heap}
/-! ### relative_row -/
theorem scRel : FnScope ["first", "second", "places", "place", "piece"] ["first", "second"] (defScope sRel) := ⟨rfl, rfl, rfl, by decide +kernel, rfl, by decide +kernel, by decide +kernel⟩
def spRel (K : PySem.W.Frag) : Sp := fun vs H Q _ => ∃ (a b : Addr) (n : Nat) (f s : List Int), vs = [.ref a, .ref b] ∧ SqT K H a (f.map V.int) ∧ SqT K H b (s.map V.int) ∧ Row n f ∧ Row n s ∧ n ≤ 40 ∧
  ∀ H' p, Same H H' → H p = none → H' p = some (.tup ((rel f s).map V.int)) → Q (.ref p) H'
theorem ok_rel {fa : Addr} {fd : FuncData} (F : Fun K "relative_row" "relative_row" sRel fa fd) (T : Txt mg) (CC : Cal P w K mg base 1 "check_row" (spCheck K)) (CS : Cal P w K mg base 1 "need_same_length" (spSame K)) :
    FnOk P w K mg base CX0 2 fa fd ["first", "second"] (spRel K) := by
  refine F.ok scRel (fun vs H Q E h => ?_) (fun cdv A outer sh H vs Q E hr h => ?_)
  · obtain ⟨a, b, n, f, s, rfl, _⟩ := h
    rfl
  · obtain ⟨a, b, n, f, s, rfl, hA, hB, hf, hs, hn, q⟩ := h
    have lf : f.length = n := hf.len
    have ls : s.length = n := hs.len
    refine ⟨_, pss_cons (ps_expr (C8.pe_c CC hr (by decide) (by rfl) (pa_cons (pv 0) pa_nil)))
      (pss_cons (ps_expr (C8.pe_c CC hr (by decide) (by rfl) (pa_cons (pv 1) pa_nil)))
      (pss_cons (ps_expr (C8.pe_c CS hr (by decide) (by rfl) (pa_cons (pv 0) (pa_cons (pv 1) pa_nil))))
      (pss_cons (ps_set (i := 2) scRel.nd rfl (.inr rfl) (pe_dc (own := [("place", 3)]) (g := gName 3) (tt := tYes) rfl scRel.nd (pi_range1 (by rfl) T.range (pa_cons (pe_callB call_len_seq (by rfl) T.len PySem.boot_len (pa_cons (pv 1) pa_nil)) pa_nil))
          (blkOk_by (N := ["first", "second", "places", "place", "piece"]) (sc := defScope sRel) (by decide +kernel)) (fun _ _ _ _ _ => pg_name (i := 3) scRel.nd rfl (.inl rfl)) (fun _ _ _ _ _ => pts_nil)
          (fun _ _ _ _ _ => pe_ix (r := rIxT K) ix_tup (pv 1) (pv 3) (fun _ _ => rfl)) (fun _ _ _ _ _ => pe_op op_add (pv 3) pe_int)))
      (pss_one (ps_ret (pe_callTy call_tuple_of (by rfl) T.tuple boot_tuple (pa_cons (pe_lc (own := [("piece", 4)]) (g := gName 4) (tt := tYes) rfl scRel.nd (pi_tup (pv 0))
          (blkOk_by (N := ["first", "second", "places", "place", "piece"]) (sc := defScope sRel) (by decide +kernel)) (fun _ _ _ _ _ => pg_name (i := 4) scRel.nd rfl (.inl rfl)) (fun _ _ _ _ _ => pts_nil)
          (fun _ _ _ _ _ => pe_dget (hu_of hr) (pv 2) (pv 4) (fun _ _ => rfl))) pa_nil))))))), ?_⟩
    refine ⟨.ref a, rfl, a, n, f, rfl, hA, hf, hn, fun H1 s1 => ?_⟩
    refine ⟨.ref b, rfl, b, n, s, rfl, sqt_same s1 hB, hs, hn, fun H2 s2 => ?_⟩
    have s12 := s1.trans s2
    refine ⟨.ref a, rfl, .ref b, rfl, a, b, _, _, rfl, sqt_same s12 hA, sqt_same s12 hB, by rw [List.length_map, List.length_map, lf, ls], fun H3 s3 => ?_⟩
    have s13 := s12.trans s3
    refine ⟨.ref b, rfl, b, _, rfl, .inr (sqt_same s13 hB), _, rfl, by rw [List.length_map]; omega, by rw [List.length_map]; omega, fun d nd => ?_⟩
    have nd0 : H d = none := s13.free nd
    rw [List.length_map, Int.toNat_natCast]
    -- W: i turns are done, m are left
    refine ⟨fun i m H' => i + m = s.length ∧ Same H H' ∧ H' d = some (.dK (prs (s.take i) 0)), ⟨s.length, Nat.zero_add _, same_upd2 s13 nd0, upd_same⟩, fun i m H4 hW => ?_⟩
    obtain ⟨him, s4, hD⟩ := hW
    by_cases hi : i < s.length
    · obtain ⟨x, hx⟩ : ∃ x, s[i]? = some x := ⟨_, List.getElem?_eq_getElem hi⟩
      refine .inr ⟨hi, fun H' => Same H H' ∧ H' d = some (.dK (prs (s.take (i + 1)) 0)), fun H' hN => ⟨m - 1, by omega, by omega, hN.1, hN.2⟩, fun v H' hv => ?_⟩
      obtain ⟨rfl, rfl⟩ := hv
      refine ⟨rfl, ?_⟩
      rw [Int.zero_add]
      refine ⟨.ref b, rfl, .int (i : Int), rfl, b, _, _, _, rfl, rfl, sqt_same s4 hB, at_of rfl (map_get hx), _, rfl, _, _, rfl, rfl, _, Sum.inl x, rfl, hD, line_small (by rw [prs_len, List.length_take]; omega), same_upd2 s4 nd0, ?_⟩
      have hlen : (s.take i).length = i := by
        rw [List.length_take]
        omega
      have e := prs_put (nodup_take hs.nodup hx)
      rw [hlen] at e
      rw [upd_same, e, take_snoc hx]
    · refine .inl ⟨Nat.le_of_not_lt hi, ?_⟩
      rw [List.take_of_length_le (Nat.le_of_not_lt hi)] at hD
      refine ⟨.ref a, rfl, a, rfl, ⟨_, sqt_same s4 hA⟩, fun o no => ?_⟩
      have no0 : H o = none := s4.free no
      have ndo : d ≠ o := ne_of_none hD no
      refine lc_tup (K := K) (a := a) (xs := f.map V.int) (fun i H' => Same H H' ∧ H' d = some (.dK (prs s 0)) ∧ H' o = some (.lst (((rel f s).take i).map V.int))) ⟨same_upd2 s4 no0, by rw [upd_ne ndo]; exact hD, upd_same⟩
        (fun i H' _ ⟨s5, _⟩ => sqt_same s5 hA) ?_ ?_
      · rintro i y H5 hy ⟨s5, hD5, hO5⟩
        obtain ⟨x, rfl, hx⟩ := get_map hy
        have hxs : x ∈ s := (List.Perm.trans hf (List.Perm.symm hs)).mem_iff.mp (List.mem_of_getElem? hx)
        have hi : i < f.length := (List.getElem?_eq_some_iff.mp hx).1
        refine ⟨rfl, ?_⟩
        refine ⟨.ref d, rfl, .int x, rfl, d, .int (((0 + s.idxOf x : Nat) : Int) + 1), rfl, ?_, _, hO5, line_small (by rw [List.length_map, List.length_take, rel_len]; omega), same_upd2 s5 no0, by rw [upd_ne ndo]; exact hD5, ?_⟩
        · have g := DGet.k (k := Sum.inl x) hD5
          rw [prs_get s 0 hxs] at g
          exact g
        · have hr : (rel f s)[i]? = some (((0 + s.idxOf x : Nat) : Int) + 1) := by
            unfold rel
            rw [List.getElem?_map, hx, Nat.zero_add]
            rfl
          rw [upd_same, snoc_map, take_snoc hr]
      · rintro H5 ⟨s5, hD5, hO5⟩
        rw [List.length_map, lf, List.take_of_length_le (by rw [rel_len, lf]; exact Nat.le_refl _)] at hO5
        refine ⟨o, _, rfl, .inl ⟨SqL.of hO5, fun p np => ?_⟩⟩
        exact q _ p (s5.trans (same_upd np)) (s5.free np) upd_same
end
end NX
namespace NX
open PySem PySem.Spec PyProof.Rows L2
section
variable {P : Program} {w : World} {K : PySem.W.Frag} {mg : Str → Option Value} {base : Heap}
/-! ### _law_is_integer -/
theorem scIsInt : FnScope ["_law_actual"] ["_law_actual"] (defScope sIsInt) := ⟨rfl, rfl, rfl, by decide +kernel, rfl, by decide +kernel, by decide +kernel⟩
def spIsInt : Sp := fun vs H Q _ => ∃ (i : Int), vs = [.int i] ∧ Q (.bl true) H
theorem ok_isint {f : Addr} {fd : FuncData} (F : Fun K "_law_is_integer" "_law_is_integer" sIsInt f fd) (T : Txt mg) : FnOk P w K mg base CX0 1 f fd ["_law_actual"] spIsInt := by
  refine F.ok scIsInt (fun vs H Q E h => ?_) (fun cdv A outer s H vs Q E hr h => ?_)
  · obtain ⟨i, rfl, _⟩ := h
    rfl
  · obtain ⟨i, rfl, q⟩ := h
    refine ⟨_, pss_one (ps_ret (pe_and (pe_callB call_isi (by rfl) T.isinstance boot_isinstance (pa_cons (pv 0) (pa_cons (pe_bltn (v := .ty "int") (by rfl) T.int boot_int rfl) pa_nil)))
      (pe_one (pe_not (pe_callB call_isi (by rfl) T.isinstance boot_isinstance (pa_cons (pv 0) (pa_cons (pe_bltn (v := .ty "bool") (by rfl) T.bool boot_bool rfl) pa_nil))))))), ?_⟩
    refine ⟨.int i, rfl, .int i, .ty "int", .type "int", .type "int", true, rfl, .ty _, .base (.int i), kit_ty (by decide +kernel), true, rfl, ?_⟩
    refine iteT ?_
    exact ⟨.int i, rfl, .int i, .ty "bool", .type "int", .type "bool", false, rfl, .ty _, .base (.int i), kit_ty (by decide +kernel), false, rfl, q⟩
/-! ### _law_plain_move, of the kind next -/
theorem scMove : FnScope ["_law_kind", "_law_cell_here", "_law_n", "_law_d", "_law_i", "_law_j", "_law_a", "_law_b", "_law_c", "_law_e"] ["_law_kind", "_law_cell_here", "_law_n"] (defScope sMove) := ⟨rfl, rfl, rfl, by decide +kernel, rfl, by decide +kernel, by decide +kernel⟩
def spMove : Sp := fun vs H Q _ => ∃ (c : Int) (n : Nat), vs = [.str "next", .int c, .int (n : Int)] ∧ 2 ≤ n ∧ n ≤ 40 ∧ ∀ (H' : Hp) (p : Addr) (d : Nat), Same H H' → H p = none → H' p = some (.tup [.str "next", .int (d : Int)]) → d + 1 < n → Q (.ref p) H'
theorem ok_move {f : Addr} {fd : FuncData} (F : Fun K "_law_plain_move" "_law_plain_move" sMove f fd) (T : Txt mg) (CR : Cal P w K mg base 1 "_law_rich" spRich) (CD : Cal P w K mg base 1 "_law_digits" (spDigits K)) :
    FnOk P w K mg base CX0 2 f fd ["_law_kind", "_law_cell_here", "_law_n"] spMove := by
  refine F.ok scMove (fun vs H Q E h => ?_) (fun cdv A outer s H vs Q E hr h => ?_)
  · obtain ⟨c, n, rfl, _⟩ := h
    rfl
  · obtain ⟨c, n, rfl, hn2, hn, q⟩ := h
    refine ⟨_, pss_cons (ps_set (i := 3) scMove.nd rfl (.inl rfl) (C8.pe_c CD hr (by decide) (by rfl) (pa_cons (C8.pe_c CR hr (by decide) (by rfl) (pa_cons (pv 1) pa_nil))
        (pa_cons (pe_lst (pa_cons (pv 2) (pa_cons (pe_op op_sub (pv 2) pe_int) (pa_cons (pe_op op_add (pv 2) pe_int) (pa_cons (pe_op op_add (pv 2) pe_int) (pa_cons (pe_op op_add (pv 2) pe_int) (pa_cons (pe_op op_add (pv 2) pe_int) pa_nil))))))) pa_nil))))
      (pss_cons (ps_set (i := 4) scMove.nd rfl (.inl rfl) (pe_ix ix_list (pv 3) pe_int (fun _ _ => rfl)))
      (pss_cons (ps_set (i := 5) scMove.nd rfl (.inl rfl) (pe_op op_add (pe_ix ix_list (pv 3) pe_int (fun _ _ => rfl)) (pe_callTy call_int1 (by rfl) T.int boot_int (pa_cons (pe_cmpR op_ge (pe_ix ix_list (pv 3) pe_int (fun _ _ => rfl)) (pe_ix ix_list (pv 3) pe_int (fun _ _ => rfl)) (nomark _)) pa_nil))))
      (pss_cons (ps_if (pt_cmpR op_eq (pv 0) pe_str (nomark _)) (pss_one (ps_ret (pe_tup (pa_cons pe_str (pa_cons (pe_ix ix_list (pv 3) pe_int (fun _ _ => rfl)) pa_nil))))) pss_nil)
      pss_never))), ?_⟩
    refine ⟨.int c, rfl, c, rfl, fun z => ?_⟩
    refine ⟨_, rfl, _, rfl, _, _, rfl, rfl, _, rfl, _, _, rfl, rfl, _, rfl, _, _, rfl, rfl, _, rfl, _, _, rfl, rfl, _, rfl, _, _, rfl, rfl, (by show 6 ≤ sizeLine; decide), fun l nl => ?_⟩
    refine ⟨z, l, [(n : Int), (n : Int) - 1, (n : Int) + 1, (n : Int) + 1, (n : Int) + 1, (n : Int) + 1], rfl, SqL.of upd_same, (by show 6 ≤ 10; decide), fun z hz => ?_, fun H1 p ds s1 np hp hl hd => ?_⟩
    · simp only [List.mem_cons, List.not_mem_nil, or_false] at hz
      rcases hz with e | e | e | e | e | e <;> omega
    have hl6 : ds.length = 6 := hl
    obtain ⟨x, hx⟩ : ∃ x, ds[0]? = some x := ⟨_, List.getElem?_eq_getElem (by omega)⟩
    obtain ⟨y, hy⟩ : ∃ y, ds[1]? = some y := ⟨_, List.getElem?_eq_getElem (by omega)⟩
    have by_ := hd 1 y ((n : Int) - 1) hy rfl
    have sH : Same H H1 := (same_upd nl).trans s1
    have g0 : atI (ds.map V.int) 0 = some (.int x) := at_of (j := 0) rfl (map_get hx)
    have g1 : atI (ds.map V.int) 1 = some (.int y) := at_of (j := 1) rfl (map_get hy)
    refine ⟨.ref p, rfl, p, _, _, _, rfl, rfl, SqL.of hp, g0, ?_⟩
    refine ⟨.ref p, rfl, p, _, _, _, rfl, rfl, SqL.of hp, g1, .ref p, rfl, p, _, _, _, rfl, rfl, SqL.of hp, g1, .ref p, rfl, p, _, _, _, rfl, rfl, SqL.of hp, g0, _, _, rfl, rfl, .inr ⟨_, rfl, _, _, rfl, rfl, ?_⟩⟩
    refine ⟨.str "next", rfl, rfl, _, rfl, ?_⟩
    rw [decide_eq_true rfl]
    refine iteT ?_
    refine ⟨.ref p, rfl, p, _, _, _, rfl, rfl, SqL.of hp, g1, (by show 2 ≤ sizeLine; decide), fun t nt => ?_⟩
    obtain ⟨k, hk⟩ : ∃ k : Nat, y = (k : Int) := ⟨y.toNat, by omega⟩
    subst hk
    exact q _ t k (sH.trans (same_upd nt)) (sH.free nt) upd_same (by omega)
/-! ### _law_moved, of the kind next -/
theorem scMoved : FnScope ["_law_row_here", "_law_move", "_law_cells", "_law_k", "_law_i", "_law_j", "_law_m"] ["_law_row_here", "_law_move"] (defScope sMoved) := ⟨rfl, rfl, rfl, by decide +kernel, rfl, by decide +kernel, by decide +kernel⟩
def spMoved (K : PySem.W.Frag) : Sp := fun vs H Q _ => ∃ (a m : Addr) (r : List Int) (i : Nat), vs = [.ref a, .ref m] ∧ SqT K H a (r.map V.int) ∧ SqT K H m [.str "next", .int (i : Int)] ∧ i + 1 < r.length ∧
  ∀ (H' : Hp) (p : Addr), Same H H' → H p = none → H' p = some (.tup ((sw r i).map V.int)) → Q (.ref p) H'
theorem wd_no {a b : Str} (h : a ≠ b) : decide (V.str a = V.str b) = false := decide_eq_false fun e => h (V.str.inj e)
theorem ok_moved {f : Addr} {fd : FuncData} (F : Fun K "_law_moved" "_law_moved" sMoved f fd) (T : Txt mg) : FnOk P w K mg base CX0 1 f fd ["_law_row_here", "_law_move"] (spMoved K) := by
  refine F.ok scMoved (fun vs H Q E h => ?_) (fun cdv A outer s H vs Q E hr h => ?_)
  · obtain ⟨a, m, r, i, rfl, _⟩ := h
    rfl
  · obtain ⟨a, m, r, i, rfl, hS, hM, hi, q⟩ := h
    obtain ⟨x, hx⟩ : ∃ x, r[i]? = some x := ⟨_, List.getElem?_eq_getElem (by omega)⟩
    obtain ⟨y, hy⟩ : ∃ y, r[i + 1]? = some y := ⟨_, List.getElem?_eq_getElem (by omega)⟩
    refine ⟨_, pss_cons (ps_set (i := 2) scMoved.nd rfl (.inl rfl) (pe_callTy call_list_of (by rfl) T.list boot_list (pa_cons (pv 0) pa_nil)))
      (pss_cons (ps_if (pt_cmpR op_eq (pe_ix ix_tup (pv 1) pe_int (fun _ _ => rfl)) pe_str (nomark _)) pss_never pss_nil)
      (pss_cons (ps_if (pt_cmpR op_eq (pe_ix ix_tup (pv 1) pe_int (fun _ _ => rfl)) pe_str (nomark _))
        (pss_cons (ps_asg (pe_ix ix_tup (pv 0) (pe_op op_add (pe_ix ix_tup (pv 1) pe_int (fun _ _ => rfl)) pe_int) (fun _ _ => rfl)) (pg_sub (pv 2) (pe_ix ix_tup (pv 1) pe_int (fun _ _ => rfl)) set_list))
        (pss_one (ps_asg (pe_ix ix_tup (pv 0) (pe_ix ix_tup (pv 1) pe_int (fun _ _ => rfl)) (fun _ _ => rfl)) (pg_sub (pv 2) (pe_op op_add (pe_ix ix_tup (pv 1) pe_int (fun _ _ => rfl)) pe_int) set_list)))) pss_nil)
      (pss_cons (ps_if (pt_cmpR op_eq (pe_ix ix_tup (pv 1) pe_int (fun _ _ => rfl)) pe_str (nomark _)) pss_never pss_nil)
      (pss_cons (ps_if (pt_cmpR op_eq (pe_ix ix_tup (pv 1) pe_int (fun _ _ => rfl)) pe_str (nomark _)) pss_never pss_nil)
      (pss_cons (ps_if (pt_cmpR op_eq (pe_ix ix_tup (pv 1) pe_int (fun _ _ => rfl)) pe_str (nomark _)) pss_never pss_nil)
      (pss_one (ps_ret (pe_callTy call_tuple_of (by rfl) T.tuple boot_tuple (pa_cons (pv 2) pa_nil))))))))), ?_⟩
    have m0 : atI [V.str "next", V.int (i : Int)] 0 = some (.str "next") := rfl
    have m1 : atI [V.str "next", V.int (i : Int)] 1 = some (.int (i : Int)) := rfl
    have e1 : ((i : Int) + 1) = ((i + 1 : Nat) : Int) := by omega
    refine ⟨.ref a, rfl, a, _, rfl, .inr hS, fun l nl => ?_⟩
    have sl : ∀ xs, Same H (upd H l (.lst xs)) := fun xs => same_upd nl
    refine ⟨.ref m, rfl, m, _, _, _, rfl, rfl, sqt_same (sl _) hM, m0, rfl, _, rfl, ?_⟩
    rw [wd_no (by decide +kernel)]
    refine iteF ?_
    refine ⟨.ref m, rfl, m, _, _, _, rfl, rfl, sqt_same (sl _) hM, m0, rfl, _, rfl, ?_⟩
    rw [decide_eq_true rfl]
    refine iteT ?_
    refine ⟨.ref a, rfl, .ref m, rfl, m, _, _, _, rfl, rfl, sqt_same (sl _) hM, m1, _, _, rfl, rfl, a, _, _, _, rfl, rfl, sqt_same (sl _) hS, at_of e1 (map_get hy), ?_⟩
    refine ⟨.ref l, rfl, .ref m, rfl, m, _, _, _, rfl, rfl, sqt_same (sl _) hM, m1, l, _, _, i, rfl, rfl, upd_same, ixN_nat rfl (by rw [List.length_map]; omega), ?_⟩
    have s2 : Same H (upd (upd H l (.lst (r.map V.int))) l (.lst ((r.map V.int).set i (.int y)))) := same_upd2 (sl _) nl
    refine ⟨.ref a, rfl, .ref m, rfl, m, _, _, _, rfl, rfl, sqt_same s2 hM, m1, a, _, _, _, rfl, rfl, sqt_same s2 hS, at_of rfl (map_get hx), ?_⟩
    refine ⟨.ref l, rfl, .ref m, rfl, m, _, _, _, rfl, rfl, sqt_same s2 hM, m1, _, _, rfl, rfl, l, _, _, i + 1, rfl, rfl, upd_same, ixN_nat e1 (by rw [List.length_set, List.length_map]; omega), ?_⟩
    have s3 := same_upd2 (o := .lst (((r.map V.int).set i (.int y)).set (i + 1) (.int x))) s2 nl
    refine ⟨.ref m, rfl, m, _, _, _, rfl, rfl, sqt_same s3 hM, m0, rfl, _, rfl, ?_⟩
    rw [wd_no (by decide +kernel)]
    refine iteF ?_
    refine ⟨.ref m, rfl, m, _, _, _, rfl, rfl, sqt_same s3 hM, m0, rfl, _, rfl, ?_⟩
    rw [wd_no (by decide +kernel)]
    refine iteF ?_
    refine ⟨.ref m, rfl, m, _, _, _, rfl, rfl, sqt_same s3 hM, m0, rfl, _, rfl, ?_⟩
    rw [wd_no (by decide +kernel)]
    refine iteF ?_
    refine ⟨.ref l, rfl, l, _, rfl, .inl ⟨SqL.of upd_same, fun p np => ?_⟩⟩
    refine q _ p (s3.trans (same_upd np)) (s3.free np) ?_
    rw [upd_same, set_map, set_map, sw_set r i x y hx hy]
end
end NX
namespace NX
open PySem PySem.Spec PyProof.Rows L2
/-! ### a tuple of moves -/
def Mvs (H : Hp) (ps : List Addr) (ms : List Nat) : Prop := ps.length = ms.length ∧ ∀ (j : Nat) (p : Addr), ps[j]? = some p → ∃ i : Nat, ms[j]? = some i ∧ H p = some (.tup [.str "next", .int (i : Int)])
theorem Mvs.same {H H' : Hp} {ps : List Addr} {ms : List Nat} (h : Mvs H ps ms) (s : Same H H') : Mvs H' ps ms := ⟨h.1, fun j p e => by
  obtain ⟨i, h1, h2⟩ := h.2 j p e
  exact ⟨i, h1, s _ _ h2⟩⟩
theorem Mvs.snoc {H : Hp} {ps : List Addr} {ms : List Nat} {t : Addr} {i : Nat} (h : Mvs H ps ms) (ht : H t = some (.tup [.str "next", .int (i : Int)])) : Mvs H (ps ++ [t]) (ms ++ [i]) := by
  obtain ⟨h1, h2⟩ := h
  refine ⟨by rw [List.length_append, List.length_append, h1]; rfl, fun j p e => ?_⟩
  by_cases hj : j < ps.length
  · rw [List.getElem?_append_left hj] at e
    obtain ⟨k, e1, e2⟩ := h2 j p e
    exact ⟨k, by rw [List.getElem?_append_left (by omega)]; exact e1, e2⟩
  · have hl := (List.getElem?_eq_some_iff.mp e).1
    rw [List.length_append, List.length_singleton] at hl
    have ej : j = ps.length := by omega
    subst ej
    rw [List.getElem?_append_right (Nat.le_refl _), Nat.sub_self] at e
    have et : t = p := Option.some.inj e
    subst et
    exact ⟨i, by rw [h1, List.getElem?_append_right (Nat.le_refl _), Nat.sub_self]; rfl, ht⟩
/-- a list that stands elsewhere is changed -/
theorem Mvs.upd {H : Hp} {ps : List Addr} {ms : List Nat} {o : Addr} {xs ys : List V} (h : Mvs H ps ms) (ho : H o = some (.lst xs)) : Mvs (L2.upd H o (.lst ys)) ps ms := ⟨h.1, fun j p e => by
  obtain ⟨i, h1, h2⟩ := h.2 j p e
  exact ⟨i, h1, by rw [upd_ne (ne_of h2 ho (by intro q; cases q))]; exact h2⟩⟩
theorem take_snocN {l : List Nat} {i : Nat} {x : Nat} (h : l[i]? = some x) : l.take (i + 1) = l.take i ++ [x] := by
  rw [List.take_add_one, h]
  rfl
section
variable {P : Program} {w : World} {K : PySem.W.Frag} {mg : Str → Option Value} {base : Heap}
/-! ### _law_leads -/
theorem scLeads : FnScope ["_law_first", "_law_second", "_law_moves", "_law_row_here", "_law_move", "_law_place"] ["_law_first", "_law_second", "_law_moves"] (defScope sLeads) := ⟨rfl, rfl, rfl, by decide +kernel, rfl, by decide +kernel, by decide +kernel⟩
def spLeads (K : PySem.W.Frag) : Sp := fun vs H Q _ => ∃ (a b m : Addr) (f s : List Int) (ps : List Addr) (ms : List Nat), vs = [.ref a, .ref b, .ref m] ∧ SqT K H a (f.map V.int) ∧ SqT K H b (s.map V.int) ∧ SqT K H m (ps.map V.ref) ∧
  Mvs H ps ms ∧ (∀ i ∈ ms, i + 1 < f.length) ∧ run f ms = s ∧ ∀ H', Same H H' → Q (.bl true) H'
theorem ok_leads {fa : Addr} {fd : FuncData} (F : Fun K "_law_leads" "_law_leads" sLeads fa fd) (T : Txt mg) (CI : Cal P w K mg base 1 "_law_is_integer" spIsInt) (CM : Cal P w K mg base 1 "_law_moved" (spMoved K)) :
    FnOk P w K mg base CX0 2 fa fd ["_law_first", "_law_second", "_law_moves"] (spLeads K) := by
  refine F.ok scLeads (fun vs H Q E h => ?_) (fun cdv A outer sh H vs Q E hr h => ?_)
  · obtain ⟨a, b, m, f, s, ps, ms, rfl, _⟩ := h
    rfl
  · obtain ⟨a, b, m, f, s, ps, ms, rfl, hA, hB, hM, mv, hms, hrun, q⟩ := h
    refine ⟨_, pss_cons (ps_set (i := 3) scLeads.nd rfl (.inr rfl) (pv 0))
      (pss_cons (ps_for PassesOwn.never rfl (pi_tup (pv 2)) (pg_name (i := 4) scLeads.nd rfl (.inl rfl))
        (pss_cons (ps_if (PW.pt (pw_or (pt_not (pt_val (pe_callB call_isi (by rfl) T.isinstance boot_isinstance (pa_cons (pv 4) (pa_cons (pe_bltn (v := .ty "tuple") (by rfl) T.tuple boot_tuple rfl) pa_nil)))))
            (pw_or (pt_cmpR op_lt (pe_callB call_len_seq (by rfl) T.len PySem.boot_len (pa_cons (pv 4) pa_nil)) pe_int (nomark _))
            (pw_or1 (pt_cmpR op_ne (pe_ix ix_tup (pv 4) pe_int (fun _ _ => rfl)) pe_str (nomark _)))))) pss_never pss_nil)
        (pss_cons (ps_if (pt_cmpR (op_neD hr.units) (pe_lc (own := [("_law_place", 5)]) (g := gName 5) rfl scLeads.nd (pi_tup (pe_slice sl_tup (pv 4) (po_some pe_int) po_none))
            (blkOk_by (N := ["_law_first", "_law_second", "_law_moves", "_law_row_here", "_law_move", "_law_place"]) (sc := defScope sLeads) (by decide +kernel)) (fun _ _ _ _ _ => pg_name (i := 5) scLeads.nd rfl (.inl rfl))
            (fun _ _ _ _ _ => pts_one (PW.pt (pw_or (pt_not (pt_val (C8.pe_c (sp := spIsInt) CI hr (by decide) (by rfl) (pa_cons (pv 5) pa_nil))))
              (pw_or (pt_cmpR op_lt (pv 5) pe_int (nomark _)) (pw_or1 (pt_cmpR op_gt (pv 5) (pe_callB (r := fun xs H Q => ∃ p ys, xs = [.ref p] ∧ (SqL K H p ys ∨ SqT K H p ys) ∧ Q (.int ys.length) H) call_len_seq (by rfl) T.len PySem.boot_len (pa_cons (pv 3) pa_nil)) (nomark _)))))))
            (fun _ _ _ _ _ => pv 5)) (pe_lst pa_nil) (nomark _)) pss_never pss_nil)
        (pss_cons (ps_if (pt_cmpR op_ge (pe_op op_add (pe_ix ix_tup (pv 4) pe_int (fun _ _ => rfl)) pe_int) (pe_callB call_len_seq (by rfl) T.len PySem.boot_len (pa_cons (pv 3) pa_nil)) (nomark _)) pss_never pss_nil)
        (pss_one (ps_set (i := 3) scLeads.nd rfl (.inr rfl) (C8.pe_c CM hr (by decide) (by rfl) (pa_cons (pv 3) (pa_cons (pv 4) pa_nil)))))))))
      (pss_one (ps_ret (pe_cmpR (op_eqD hr.units) (pv 3) (pv 1) (nomark _))))), ?_⟩
    refine ⟨.ref a, rfl, .ref m, rfl, m, rfl, ⟨_, hM⟩, ?_⟩
    refine for_tup (K := K) (a := m) (xs := ps.map V.ref) (fun j σ H' => ∃ (c : Addr) (y4 : Option V), σ = [some (.ref a), some (.ref b), some (.ref m), some (.ref c), y4, none] ∧ Same H H' ∧ SqT K H' c ((run f (ms.take j)).map V.int))
      ⟨a, none, rfl, Same.refl H, hA⟩ (fun j σ H' _ ⟨_, _, _, s1, _⟩ => sqt_same s1 hM) ?_ ?_
    · rintro j y σ H1 hy ⟨c, y4, rfl, s1, hC⟩
      obtain ⟨p, rfl, hpj⟩ : ∃ p, y = V.ref p ∧ ps[j]? = some p := by
        rw [List.getElem?_map] at hy
        cases e : ps[j]? with
        | none =>
          rw [e] at hy
          cases hy
        | some p =>
          rw [e] at hy
          exact ⟨p, (Option.some.inj hy).symm, rfl⟩
      obtain ⟨i, hij, hp0⟩ := mv.2 j p hpj
      have hp := s1 _ _ hp0
      have hi : i + 1 < f.length := hms i (List.mem_of_getElem? hij)
      have hcl : (run f (ms.take j)).length = f.length := run_len _ _
      have m0 : atI [V.str "next", V.int (i : Int)] 0 = some (.str "next") := rfl
      have m1 : atI [V.str "next", V.int (i : Int)] 1 = some (.int (i : Int)) := rfl
      -- the first test
      refine ⟨.ref p, rfl, .ref p, .ty "tuple", .type "tuple", .type "tuple", true, rfl, .ty _, .base (.tup hp), kit_ty (by decide +kernel), true, rfl, ?_⟩
      refine iteF ?_
      refine ⟨.ref p, rfl, p, _, rfl, .inr (SqT.of hp), _, _, rfl, rfl, _, rfl, ?_⟩
      refine ite2 (fun e => absurd (of_decide_eq_true e) (show ¬ ((2 : Nat) : Int) < 2 by decide)) (fun _ => ?_)
      refine ⟨.ref p, rfl, p, _, _, _, rfl, rfl, SqT.of hp, m0, rfl, _, rfl, ?_⟩
      refine iteNS rfl ?_
      -- the comprehension
      refine ⟨.ref p, rfl, 1, rfl, p, _, rfl, SqT.of hp, (show ¬ (HT.sIx 2 0 (some 1) = 0 ∧ HT.sIx 2 2 none = 2) by decide), fun t nt => ?_⟩
      have ecut : cutV [V.str "next", V.int (i : Int)] (some 1) none = [V.int (i : Int)] := rfl
      rw [ecut]
      have s2 : Same H1 (upd H1 t (.tup [V.int (i : Int)])) := same_upd nt
      refine ⟨t, rfl, ⟨_, SqT.of upd_same⟩, fun D nD => ?_⟩
      have nD0 : H1 D = none := s2.free nD
      have ntD : t ≠ D := fun e => by
        rw [← e, upd_same] at nD
        cases nD
      refine lc_tup (K := K) (a := t) (xs := [V.int (i : Int)]) (fun k H' => Same H1 H' ∧ H' t = some (.tup [V.int (i : Int)]) ∧ H' D = some (.lst [])) ⟨same_upd2 s2 nD0, by rw [upd_ne ntD]; exact upd_same, upd_same⟩
        (fun k H' _ ⟨_, e, _⟩ => SqT.of e) ?_ ?_
      · rintro k y H2 hk ⟨s3, ht, hD⟩
        have ey : y = .int (i : Int) := by
          cases k with
          | zero => exact (Option.some.inj hk).symm
          | succ k => cases hk
        subst ey
        refine ⟨rfl, ?_⟩
        refine ⟨.int (i : Int), rfl, (i : Int), rfl, true, rfl, ?_⟩
        refine iteF ?_
        refine ⟨.int (i : Int), rfl, _, _, rfl, rfl, _, rfl, ?_⟩
        refine ite2 (fun e => absurd (of_decide_eq_true e) (by omega)) (fun _ => ?_)
        refine ⟨.int (i : Int), rfl, .ref c, rfl, c, _, rfl, .inr (sqt_same s3 hC), _, _, rfl, rfl, _, rfl, ?_⟩
        rw [List.length_map, hcl]
        refine ite2 (fun e => absurd (of_decide_eq_true e) (by omega)) (fun _ => ?_)
        exact ⟨s3, ht, hD⟩
      · rintro H2 ⟨s3, ht, hD⟩
        refine ⟨Nat.zero_le _, fun u nu => ?_⟩
        have nDu : D ≠ u := ne_of_none hD nu
        have hD' : (upd H2 u (.lst [])) D = some (.lst []) := by
          rw [upd_ne nDu]
          exact hD
        refine ⟨.list [], .list [], .lst (SqL.of hD') .nil, .lst (SqL.of upd_same) .nil, rfl, rfl, _, rfl, ?_⟩
        have e0 : PyData.eqv (.list []) (.list []) = true := ints_eqvL []
        rw [e0]
        refine iteF ?_
        have s4 : Same H1 (upd H2 u (.lst [])) := s3.trans (same_upd nu)
        have hp4 := s4 _ _ hp
        have hC4 := sqt_same s4 hC
        refine ⟨.ref p, rfl, p, _, _, _, rfl, rfl, SqT.of hp4, m1, _, _, rfl, rfl, .ref c, rfl, c, _, rfl, .inr hC4, _, _, rfl, rfl, _, rfl, ?_⟩
        rw [List.length_map, hcl]
        refine ite2 (fun e => absurd (of_decide_eq_true e) (by omega)) (fun _ => ?_)
        refine ⟨.ref c, rfl, .ref p, rfl, c, p, _, i, rfl, hC4, SqT.of hp4, by rw [hcl]; exact hi, fun H5 c' s5 nc' hc' => ?_⟩
        refine ⟨c', some (.ref p), rfl, (s1.trans s4).trans s5, ?_⟩
        rw [take_snocN hij, run_snoc]
        exact SqT.of hc'
    · rintro σ H1 ⟨c, y4, rfl, s1, hC⟩
      rw [List.length_map, mv.1, List.take_length, hrun] at hC
      refine ⟨.ref c, rfl, .ref b, rfl, .tuple (s.map PyData.int), .tuple (s.map PyData.int), .tup hC (dp_ints _), .tup (sqt_same s1 hB) (dp_ints _), ints_shapedT _, ints_shapedT _, ?_⟩
      rw [ints_eqvT]
      exact q _ s1
/-! ### least_nexts -/
theorem scLeast : FnScope ["first", "second"] ["first", "second"] (defScope sLeast) := ⟨rfl, rfl, rfl, by decide +kernel, rfl, by decide +kernel, by decide +kernel⟩
def spLeast (K : PySem.W.Frag) : Sp := fun vs H Q _ => ∃ (a b : Addr) (n : Nat) (f s : List Int), vs = [.ref a, .ref b] ∧ SqT K H a (f.map V.int) ∧ SqT K H b (s.map V.int) ∧ Row n f ∧ Row n s ∧ n ≤ 40 ∧
  ∀ H', Same H H' → Q (.int ((inv (rel f s) : Nat) : Int)) H'
theorem ok_least {fa : Addr} {fd : FuncData} (F : Fun K "least_nexts" "least_nexts" sLeast fa fd) (T : Txt mg) (CR : Cal P w K mg base 2 "relative_row" (spRel K)) (CW : Cal P w K mg base 1 "wrong_pairs" (spWrong K)) :
    FnOk P w K mg base CX0 3 fa fd ["first", "second"] (spLeast K) := by
  refine F.ok scLeast (fun vs H Q E h => ?_) (fun cdv A outer sh H vs Q E hr h => ?_)
  · obtain ⟨a, b, n, f, s, rfl, _⟩ := h
    rfl
  · obtain ⟨a, b, n, f, s, rfl, hA, hB, hf, hs, hn, q⟩ := h
    refine ⟨_, pss_one (ps_ret (pe_callB call_len_seq (by rfl) T.len PySem.boot_len (pa_cons (C8.pe_c CW hr (by decide) (by rfl) (pa_cons (C8.pe_c CR hr (by decide) (by rfl) (pa_cons (pv 0) (pa_cons (pv 1) pa_nil))) pa_nil)) pa_nil))), ?_⟩
    refine ⟨.ref a, rfl, .ref b, rfl, a, b, n, f, s, rfl, hA, hB, hf, hs, hn, fun H1 c s1 nc hc => ?_⟩
    refine ⟨c, rel f s, rfl, SqT.of hc, by rw [rel_len, hf.len]; exact hn, fun H2 p ys s2 np hp hl => ?_⟩
    refine ⟨p, ys, rfl, .inr (SqT.of hp), ?_⟩
    rw [hl]
    exact q _ (s1.trans s2)
/-! ### next_script -/
theorem scScript : FnScope ["first", "second", "row", "moves", "is_changed", "place"] ["first", "second"] (defScope sScript) := ⟨rfl, rfl, rfl, by decide +kernel, rfl, by decide +kernel, by decide +kernel⟩
def spScript (K : PySem.W.Frag) : Sp := fun vs H Q _ => ∃ (a b : Addr) (n : Nat) (f s : List Int), vs = [.ref a, .ref b] ∧ SqT K H a (f.map V.int) ∧ SqT K H b (s.map V.int) ∧ Row n f ∧ Row n s ∧ n ≤ 40 ∧
  ∀ (H' : Hp) (p : Addr) (ps : List Addr) (ms : List Nat), Same H H' → H p = none → H' p = some (.tup (ps.map V.ref)) → Mvs H' ps ms → (∀ i ∈ ms, i + 1 < n) → ms.length = inv (rel f s) → run f ms = s → Q (.ref p) H'
/-- what holds between two turns of the loops of next_script -/
structure Sc (H : Hp) (n : Nat) (r0 : List Int) (o : Addr) (H' : Hp) (c : Addr) (r : List Int) (ps : List Addr) (ms : List Nat) : Prop where
  same : Same H H'
  row : H' c = some (.tup (r.map V.int))
  lst : H' o = some (.lst (ps.map V.ref))
  mv : Mvs H' ps ms
  low : ∀ i ∈ ms, i + 1 < n
  eq : run r0 ms = r
  cnt : ms.length + inv r = inv r0
theorem Sc.len {H : Hp} {n : Nat} {r0 : List Int} {o : Addr} {H' : Hp} {c : Addr} {r : List Int} {ps : List Addr} {ms : List Nat} (h : Sc H n r0 o H' c r ps ms) : r.length = r0.length := by
  rw [← h.eq, run_len]
theorem ok_script {fa : Addr} {fd : FuncData} (F : Fun K "next_script" "next_script" sScript fa fd) (T : Txt mg) (CR : Cal P w K mg base 2 "relative_row" (spRel K)) (CS : Cal P w K mg base 1 "swapped" (spSwapped K)) :
    FnOk P w K mg base CX0 3 fa fd ["first", "second"] (spScript K) := by
  refine F.ok scScript (fun vs H Q E h => ?_) (fun cdv A outer sh H vs Q E hr h => ?_)
  · obtain ⟨a, b, n, f, s, rfl, _⟩ := h
    rfl
  · obtain ⟨a, b, n, f, s, rfl, hA, hB, hf, hs, hn, q⟩ := h
    refine ⟨_, pss_cons (ps_set (i := 2) scScript.nd rfl (.inl rfl) (C8.pe_c CR hr (by decide) (by rfl) (pa_cons (pv 0) (pa_cons (pv 1) pa_nil))))
      (pss_cons (ps_set (i := 3) scScript.nd rfl (.inl rfl) (pe_lst pa_nil))
      (pss_cons (ps_set (i := 4) scScript.nd rfl (.inl rfl) pe_bl)
      (pss_cons (ps_while PassesOwn.never (pt_val (pv 4))
        (pss_cons (ps_set (i := 4) scScript.nd rfl (.inl rfl) pe_bl)
        (pss_one (ps_for PassesOwn.never rfl (pi_range1 (by rfl) T.range (pa_cons (pe_op op_sub (pe_callB call_len_seq (by rfl) T.len PySem.boot_len (pa_cons (pv 2) pa_nil)) pe_int) pa_nil)) (pg_name (i := 5) scScript.nd rfl (.inl rfl))
          (pss_one (ps_if (pt_cmpR op_gt (pe_ix ix_tup (pv 2) (pv 5) (fun _ _ => rfl)) (pe_ix ix_tup (pv 2) (pe_op op_add (pv 5) pe_int) (fun _ _ => rfl)) (nomark _))
            (pss_cons (ps_set (i := 2) scScript.nd rfl (.inl rfl) (C8.pe_c CS hr (by decide) (by rfl) (pa_cons (pv 2) (pa_cons (pv 5) (pa_cons (pe_op op_add (pv 5) pe_int) pa_nil)))))
            (pss_cons (ps_expr (pe_bm PySem.F.plainAttrs_list PySem.F.slot_list_append PySem.F.type_list_append mt_append (pv 3) (pa_cons (pe_tup (pa_cons pe_str (pa_cons (pv 5) pa_nil))) pa_nil)))
            (pss_one (ps_set (i := 4) scScript.nd rfl (.inl rfl) pe_bl)))) pss_nil))))))
      (pss_one (ps_ret (pe_callTy call_tuple_of (by rfl) T.tuple boot_tuple (pa_cons (pv 3) pa_nil))))))), ?_⟩
    refine ⟨.ref a, rfl, .ref b, rfl, a, b, n, f, s, rfl, hA, hB, hf, hs, hn, fun H1 c s1 nc hc => ?_⟩
    refine ⟨Nat.zero_le _, fun o no => ?_⟩
    have no0 : H o = none := s1.free no
    have hrl : (rel f s).length = n := by rw [rel_len, hf.len]
    have hsm := inv_small (r := rel f s) (by omega)
    refine ⟨fun m σ H' => ∃ (c : Addr) (r : List Int) (ch : Bool) (y5 : Option V) (ps : List Addr) (ms : List Nat), σ = [some (.ref a), some (.ref b), some (.ref c), some (.ref o), some (.bl ch), y5] ∧ Sc H n (rel f s) o H' c r ps ms ∧ (ch = false → r.Pairwise (· ≤ ·)) ∧ m = inv r + (if ch = true then 1 else 0),
      ⟨inv (rel f s) + 1, c, rel f s, true, none, [], [], rfl, ⟨same_upd2 s1 no0, by rw [upd_ne (ne_of_none hc no)]; exact hc, upd_same, ⟨rfl, fun j p e => by simp at e⟩, fun i hi => by simp at hi, rfl, by simp⟩, (fun e => nomatch e), rfl⟩, ?_⟩
    rintro m σ H2 ⟨c, r, ch, y5, ps, ms, rfl, I, hup, rfl⟩
    refine ⟨.bl ch, rfl, ch, rfl, ?_⟩
    cases ch with
    | false =>
      refine iteF ?_
      have hu := hup rfl
      refine ⟨.ref o, rfl, o, _, rfl, .inl ⟨SqL.of I.lst, fun p np => ?_⟩⟩
      have h0 : inv r = 0 := inv_sorted r hu
      have hc := I.cnt
      have hsort : (run (rel f s) ms).Pairwise (· ≤ ·) := by
        rw [I.eq]
        exact hu
      exact q _ p ps ms (I.same.trans (same_upd np)) (I.same.free np) upd_same (I.mv.same (same_upd np)) I.low (by omega) (leads hf hs hsort)
    | true =>
      refine iteT ?_
      refine ⟨fun σ' H' => ∃ m', m' < inv r + (if true = true then 1 else 0) ∧ ∃ (c : Addr) (r : List Int) (ch : Bool) (y5 : Option V) (ps : List Addr) (ms : List Nat), σ' = [some (.ref a), some (.ref b), some (.ref c), some (.ref o), some (.bl ch), y5] ∧ Sc H n (rel f s) o H' c r ps ms ∧ (ch = false → r.Pairwise (· ≤ ·)) ∧ m' = inv r + (if ch = true then 1 else 0), fun σ' H' h => h, ?_⟩
      have hl := I.len
      refine ⟨.ref c, rfl, c, _, rfl, .inr (SqT.of I.row), _, _, rfl, rfl, _, rfl, by rw [List.length_map]; omega, by rw [List.length_map]; omega, ?_⟩
      rw [List.length_map, show ((r.length : Int) - 1).toNat = n - 1 by omega]
      refine for_range (lo := 0) (n := n - 1) (fun k σ' H' => ∃ (c : Addr) (r' : List Int) (ch : Bool) (y5 : Option V) (ps : List Addr) (ms : List Nat), σ' = [some (.ref a), some (.ref b), some (.ref c), some (.ref o), some (.bl ch), y5] ∧ Sc H n (rel f s) o H' c r' ps ms ∧
          inv r' + (if ch = true then 1 else 0) ≤ inv r ∧ (ch = false → ∀ (i : Nat) (x y : Int), i < k → r'[i]? = some x → r'[i + 1]? = some y → x ≤ y))
        ⟨c, r, false, y5, ps, ms, rfl, I, Nat.le_refl _, fun _ i x y h => by omega⟩ ?_ ?_
      · rintro k σ' H3 hk ⟨c, r', ch, y5, ps, ms, rfl, I, hle, hst⟩
        rw [Int.zero_add]
        have hl := I.len
        obtain ⟨x, hx⟩ : ∃ x, r'[k]? = some x := ⟨_, List.getElem?_eq_getElem (by omega)⟩
        obtain ⟨y, hy⟩ : ∃ y, r'[k + 1]? = some y := ⟨_, List.getElem?_eq_getElem (by omega)⟩
        have e1 : ((k : Int) + 1) = ((k + 1 : Nat) : Int) := by omega
        refine ⟨.ref c, rfl, .int (k : Int), rfl, c, _, _, _, rfl, rfl, SqT.of I.row, at_of rfl (map_get hx), .ref c, rfl, .int (k : Int), rfl, _, _, rfl, rfl, c, _, _, _, rfl, rfl, SqT.of I.row, at_of e1 (map_get hy), x, y, rfl, rfl, _, rfl, ?_⟩
        refine ite2 (fun e => ?_) (fun e => ?_)
        · have hyx : y < x := of_decide_eq_true e
          have hd := inv_desc r' k x y hx hy hyx
          refine ⟨.ref c, rfl, .int (k : Int), rfl, .int (k : Int), rfl, _, _, rfl, rfl, c, r', k, rfl, SqT.of I.row, by omega, by omega, fun H4 c' s4 nc' hc' => ?_⟩
          have ho4 := s4 _ _ I.lst
          refine ⟨.ref o, rfl, .inl ⟨rfl, _, SqL.of ho4⟩, .int (k : Int), rfl, (by show 2 ≤ sizeLine; decide), fun t nt => ?_⟩
          have hot : o ≠ t := ne_of_none ho4 nt
          have ho5 : (upd H4 t (.tup [.str "next", .int (k : Int)])) o = some (.lst (ps.map V.ref)) := by
            rw [upd_ne hot]
            exact ho4
          have hmsl := I.cnt
          refine ⟨o, _, _, rfl, rfl, ho5, line_small (by rw [List.length_map, I.mv.1]; omega), ?_⟩
          have s5 : Same H4 (upd H4 t (.tup [.str "next", .int (k : Int)])) := same_upd nt
          have mv5 : Mvs (upd H4 t (.tup [.str "next", .int (k : Int)])) (ps ++ [t]) (ms ++ [k]) := ((I.mv.same s4).same s5).snoc upd_same
          have hco : c' ≠ o := ne_of hc' ho4 (by intro q; cases q)
          have hct : c' ≠ t := ne_of_none hc' nt
          refine ⟨c', sw r' k, true, some (.int (k : Int)), ps ++ [t], ms ++ [k], rfl, ⟨same_upd2 ((I.same.trans s4).trans s5) no0, ?_, ?_, mv5.upd ho5, fun i hi => ?_, ?_, ?_⟩, ?_, (fun z => nomatch z)⟩
          · rw [upd_ne hco, upd_ne hct]
            exact hc'
          · rw [upd_same, List.map_append]
            rfl
          · rcases List.mem_append.mp hi with z | z
            · exact I.low i z
            · rw [List.mem_singleton.mp z]
              omega
          · rw [run_snoc, I.eq]
          · rw [List.length_append, List.length_singleton]
            omega
          · rw [if_pos rfl]
            have : inv r' ≤ inv r := Nat.le_trans (Nat.le_add_right _ _) hle
            omega
        · have hyx : ¬ y < x := fun z => e (decide_eq_true z)
          refine ⟨c, r', ch, some (.int (k : Int)), ps, ms, rfl, I, hle, fun z i u v hi hu hv => ?_⟩
          by_cases hik : i < k
          · exact hst z i u v hik hu hv
          · have eik : i = k := by omega
            subst eik
            have eu : x = u := Option.some.inj (hx.symm.trans hu)
            have ev : y = v := Option.some.inj (hy.symm.trans hv)
            omega
      · rintro σ' H3 ⟨c, r', ch, y5, ps, ms, rfl, I, hle, hst⟩
        refine ⟨_, ?_, c, r', ch, y5, ps, ms, rfl, I, fun z => up_of_steps r' fun i u v hu hv => ?_, rfl⟩
        · rw [if_pos rfl]
          omega
        · have hl := I.len
          have := (List.getElem?_eq_some_iff.mp hv).1
          exact hst z i u v (by omega) hu hv
end
end NX
namespace NX
open PySem PySem.Spec PyProof.Rows L2
section
variable {P : Program} {w : World} {K : PySem.W.Frag} {mg : Str → Option Value} {base : Heap}
/-! ### the law -/
theorem scLaw : FnScope ["_law_script", "_law_d", "_law_n", "_law_first", "_law_second", "_law_many", "_law_k", "_law_one", "_law_other", "_law_told", "_law_moves"] ["_law_script"] (defScope sLaw) := ⟨rfl, rfl, rfl, by decide +kernel, rfl, by decide +kernel, by decide +kernel⟩
def spLaw (K : PySem.W.Frag) : Sp := fun vs H Q _ => ∃ (a : Addr) (ns : List Int), vs = [.ref a] ∧ SqL K H a (ns.map V.int) ∧ ∀ H', Q (.bl true) H'
/-- all defs that the law calls -/
structure Cals (P : Program) (w : World) (K : PySem.W.Frag) (mg : Str → Option Value) (base : Heap) : Prop where
  cell : Cal P w K mg base 1 "_law_cell" (spLCell K)
  rich : Cal P w K mg base 1 "_law_rich" spRich
  digits : Cal P w K mg base 1 "_law_digits" (spDigits K)
  row : Cal P w K mg base 2 "_law_row" spRow
  move : Cal P w K mg base 2 "_law_plain_move" spMove
  moved : Cal P w K mg base 1 "_law_moved" (spMoved K)
  isint : Cal P w K mg base 1 "_law_is_integer" spIsInt
  leads : Cal P w K mg base 2 "_law_leads" (spLeads K)
  least : Cal P w K mg base 3 "least_nexts" (spLeast K)
  script : Cal P w K mg base 3 "next_script" (spScript K)
theorem pick {x z : Int} (h0 : 0 ≤ x) (h1 : x < 11) : ∃ n : Nat, 2 ≤ n ∧ n ≤ 40 ∧ atI [V.int (2 + x), V.int 40] (if decide (V.int z = V.int 0) = true then (1 : Int) else 0) = some (V.int (n : Int)) := by
  by_cases h : V.int z = V.int 0
  · rw [decide_eq_true h]
    exact ⟨40, by decide, by decide, rfl⟩
  · rw [decide_eq_false h]
    refine ⟨(2 + x).toNat, by omega, by omega, ?_⟩
    rw [show (((2 + x).toNat : Nat) : Int) = 2 + x by omega]
    rfl
theorem ok_law {f : Addr} {fd : FuncData} (F : Fun K "law" "law" sLaw f fd) (T : Txt mg) (C : Cals P w K mg base) : FnOk P w K mg base CX0 4 f fd ["_law_script"] (spLaw K) := by
  refine F.ok scLaw (fun vs H Q E h => ?_) (fun cdv A outer sh H vs Q E hr h => ?_)
  · obtain ⟨a, ns, rfl, _⟩ := h
    rfl
  · obtain ⟨a, ns, rfl, hA, q⟩ := h
    refine ⟨_, pss_cons (ps_set (i := 1) scLaw.nd rfl (.inl rfl) (C8.pe_c C.digits hr (by decide) (by rfl) (pa_cons (C8.pe_c C.rich hr (by decide) (by rfl) (pa_cons (C8.pe_c C.cell hr (by decide) (by rfl) (pa_cons (pv 0) (pa_cons pe_int pa_nil))) pa_nil))
        (pa_cons (pe_lst (pa_cons pe_int (pa_cons pe_int (pa_cons pe_int pa_nil)))) pa_nil))))
      (pss_cons (ps_set (i := 2) scLaw.nd rfl (.inl rfl) (pe_ix ix_list (pe_lst (pa_cons (pe_op op_add pe_int (pe_ix ix_list (pv 1) pe_int (fun _ _ => rfl))) (pa_cons pe_int pa_nil)))
        (pe_callTy call_int1 (by rfl) T.int boot_int (pa_cons (pe_cmpR op_eq (pe_ix ix_list (pv 1) pe_int (fun _ _ => rfl)) pe_int (nomark _)) pa_nil)) (fun _ _ => rfl)))
      (pss_cons (ps_set (i := 3) scLaw.nd rfl (.inl rfl) (C8.pe_c C.row hr (by decide) (by rfl) (pa_cons (C8.pe_c C.cell hr (by decide) (by rfl) (pa_cons (pv 0) (pa_cons pe_int pa_nil))) (pa_cons (pv 2) pa_nil))))
      (pss_cons (ps_set (i := 4) scLaw.nd rfl (.inl rfl) (pv 3))
      (pss_cons (ps_set (i := 5) scLaw.nd rfl (.inl rfl) pe_int)
      (C8.pss_cut (ps_for PassesOwn.never rfl (pi_range1 (by rfl) T.range (pa_cons pe_int pa_nil)) (pg_name (i := 6) scLaw.nd rfl (.inl rfl))
        (pss_cons (ps_if (pt_cmpR op_ge (pe_op op_add pe_int (pv 6)) (pe_callB call_len_seq (by rfl) T.len PySem.boot_len (pa_cons (pv 0) pa_nil)) (nomark _)) (pss_one ps_break) pss_nil)
        (pss_cons (ps_set (i := 4) scLaw.nd rfl (.inl rfl) (C8.pe_c C.moved hr (by decide) (by rfl) (pa_cons (pv 4) (pa_cons (C8.pe_c C.move hr (by decide) (by rfl) (pa_cons pe_str
            (pa_cons (pe_op op_add (C8.pe_c C.cell hr (by decide) (by rfl) (pa_cons (pv 0) (pa_cons (pe_op op_add pe_int (pv 6)) pa_nil))) (pv 6)) (pa_cons (pv 2) pa_nil)))) pa_nil))))
        (pss_one (ps_set (i := 5) scLaw.nd rfl (.inl rfl) (pe_op op_add (pv 5) pe_int))))))
      (C8.pss_cut (ps_if (pt_cmpR op_eq (pe_ix ix_list (pv 1) pe_int (fun _ _ => rfl)) pe_int (nomark _))
        (pss_cons (ps_set (i := 4) scLaw.nd rfl (.inl rfl) (C8.pe_c C.row hr (by decide) (by rfl) (pa_cons (pe_op op_add (C8.pe_c C.cell hr (by decide) (by rfl) (pa_cons (pv 0) (pa_cons pe_int pa_nil))) pe_int) (pa_cons (pv 2) pa_nil))))
        (pss_one (ps_set (i := 5) scLaw.nd rfl (.inl rfl) (pe_op op_mul (pv 2) (pv 2))))) pss_nil)
      (pss_cons (ps_for PassesOwn.never rfl (pi_list (pe_lst (pa_cons (pe_tup (pa_cons (pv 3) (pa_cons (pv 4) pa_nil))) (pa_cons (pe_tup (pa_cons (pv 4) (pa_cons (pv 3) pa_nil))) pa_nil))))
          (pg_tup (by rfl) (pgs_cons (pg_name (i := 7) scLaw.nd rfl (.inl rfl)) (pgs_cons (pg_name (i := 8) scLaw.nd rfl (.inl rfl)) pgs_nil)))
        (pss_cons (ps_set (i := 9) scLaw.nd rfl (.inl rfl) (C8.pe_c C.least hr (by decide) (by rfl) (pa_cons (pv 7) (pa_cons (pv 8) pa_nil))))
        (pss_cons (ps_if (PW.pt (pw_or (pt_not (pt_val (C8.pe_c C.isint hr (by decide) (by rfl) (pa_cons (pv 9) pa_nil)))) (pw_or (pt_cmpR op_lt (pv 9) pe_int (nomark _)) (pw_or1 (pt_cmpR op_gt (pv 9) (pv 5) (nomark _)))))) pss_never pss_nil)
        (pss_cons (ps_set (i := 10) scLaw.nd rfl (.inl rfl) (C8.pe_c C.script hr (by decide) (by rfl) (pa_cons (pv 7) (pa_cons (pv 8) pa_nil))))
        (pss_one (ps_if (PW.pt (pw_or (pt_not (pt_val (pe_callB call_isi (by rfl) T.isinstance boot_isinstance (pa_cons (pv 10) (pa_cons (pe_bltn (v := .ty "tuple") (by rfl) T.tuple boot_tuple rfl) pa_nil)))))
            (pw_or (pt_cmpR op_ne (pe_callB call_len_seq (by rfl) T.len PySem.boot_len (pa_cons (pv 10) pa_nil)) (pv 9) (nomark _))
            (pw_or1 (pt_not (pt_val (C8.pe_c C.leads hr (by decide) (by rfl) (pa_cons (pv 7) (pa_cons (pv 8) (pa_cons (pv 10) pa_nil)))))))))) pss_never pss_nil))))))
      (pss_one (ps_ret (pe_cmpR op_eq (C8.pe_c C.least hr (by decide) (by rfl) (pa_cons (pv 3) (pa_cons (pv 3) pa_nil))) pe_int (nomark _))))))))))), ?_⟩
    -- _law_d
    refine ⟨.ref a, rfl, a, ns, 0, rfl, hA, fun c0 => ?_⟩
    refine ⟨c0, rfl, fun z0 => ?_⟩
    refine ⟨(by show 3 ≤ sizeLine; decide), fun l nl => ?_⟩
    refine ⟨z0, l, [11, 5, 8], rfl, SqL.of upd_same, (by show 3 ≤ 10; decide), fun z hz => ?_, fun H1 dl ds s1 nd hdl hlen hds => ?_⟩
    · simp only [List.mem_cons, List.not_mem_nil, or_false] at hz
      rcases hz with e | e | e <;> omega
    have hl3 : ds.length = 3 := hlen
    obtain ⟨x0, hx0⟩ : ∃ x, ds[0]? = some x := ⟨_, List.getElem?_eq_getElem (by omega)⟩
    obtain ⟨x1, hx1⟩ : ∃ x, ds[1]? = some x := ⟨_, List.getElem?_eq_getElem (by omega)⟩
    obtain ⟨x2, hx2⟩ : ∃ x, ds[2]? = some x := ⟨_, List.getElem?_eq_getElem (by omega)⟩
    have b0 := hds 0 x0 11 hx0 rfl
    have g0 : atI (ds.map V.int) 0 = some (.int x0) := at_of (j := 0) rfl (map_get hx0)
    have g1 : atI (ds.map V.int) 1 = some (.int x1) := at_of (j := 1) rfl (map_get hx1)
    have g2 : atI (ds.map V.int) 2 = some (.int x2) := at_of (j := 2) rfl (map_get hx2)
    have sH1 : Same H H1 := (same_upd nl).trans s1
    -- _law_n
    obtain ⟨n, hn2, hn, hpick⟩ := pick (z := x2) b0.1 b0.2
    refine ⟨.ref dl, rfl, dl, _, _, _, rfl, rfl, SqL.of hdl, g0, _, _, rfl, rfl, (by show 2 ≤ sizeLine; decide), fun t nt => ?_⟩
    have s2 : Same H1 (upd H1 t (.lst [.int (2 + x0), .int 40])) := same_upd nt
    refine ⟨.ref dl, rfl, dl, _, _, _, rfl, rfl, SqL.of (s2 _ _ hdl), g2, rfl, .inr ⟨_, rfl, t, _, _, _, rfl, rfl, SqL.of upd_same, hpick, ?_⟩⟩
    -- _law_first, _law_second, _law_many
    refine ⟨.ref a, rfl, a, ns, 1, rfl, (sH1.trans s2).seq hA, fun c1 => ?_⟩
    refine ⟨_, rfl, c1, n, rfl, hn, fun H2 fa f s3 nf hfa hf => ?_⟩
    have sH2 : Same H H2 := (sH1.trans s2).trans s3
    have hdl2 := s3 _ _ (s2 _ _ hdl)
    refine ⟨_, rfl, ?_⟩
    -- the drawn moves
    refine ⟨fun σ H' => ∃ (c : Addr) (ms : List Nat) (y6 : Option V), σ = [some (.ref a), some (.ref dl), some (.int (n : Int)), some (.ref fa), some (.ref c), some (.int ((ms.length : Nat) : Int)), y6, none, none, none, none] ∧ Same H2 H' ∧ H' c = some (.tup ((run f ms).map V.int)), ?_, ?_⟩
    · refine ⟨60, rfl, by decide, by decide, ?_⟩
      refine for_range (lo := 0) (n := 60) (fun k σ H' => ∃ (c : Addr) (ms : List Nat) (y6 : Option V), σ = [some (.ref a), some (.ref dl), some (.int (n : Int)), some (.ref fa), some (.ref c), some (.int ((ms.length : Nat) : Int)), y6, none, none, none, none] ∧ Same H2 H' ∧ H' c = some (.tup ((run f ms).map V.int)))
        ⟨fa, [], none, rfl, Same.refl _, hfa⟩ ?_ ?_
      · rintro k σ H3 hk ⟨c, ms, y6, rfl, s4, hc⟩
        rw [Int.zero_add]
        have hA3 := (sH2.trans s4).seq hA
        refine ⟨.int (k : Int), rfl, _, _, rfl, rfl, .ref a, rfl, a, _, rfl, .inl hA3, _, _, rfl, rfl, _, rfl, ?_⟩
        refine ite2 (fun _ => ?_) (fun _ => ?_)
        · exact ⟨c, ms, some (.int (k : Int)), rfl, s4, hc⟩
        · have e2 : (2 : Int) + (k : Int) = ((2 + k : Nat) : Int) := by omega
          refine ⟨.ref c, rfl, .ref a, rfl, .int (k : Int), rfl, _, _, rfl, rfl, a, ns, 2 + k, (show [V.ref a, V.int ((2 : Int) + (k : Int))] = [V.ref a, V.int ((2 + k : Nat) : Int)] by rw [e2]), hA3, fun c2 => ?_⟩
          refine ⟨.int (k : Int), rfl, _, _, rfl, rfl, .int (n : Int), rfl, _, n, rfl, hn2, hn, fun H4 m d s5 nm hm hd => ?_⟩
          have hrl : (run f ms).length = n := by rw [run_len, hf.len]
          refine ⟨c, m, run f ms, d, rfl, SqT.of (s5 _ _ hc), SqT.of hm, by omega, fun H5 c' s6 nc' hc' => ?_⟩
          refine ⟨_, rfl, _, _, rfl, rfl, ?_⟩
          refine ⟨c', ms ++ [d], some (.int (k : Int)), ?_, (s4.trans s5).trans s6, by rw [run_snoc]; exact hc'⟩
          rw [List.length_append, List.length_singleton]
          rfl
      · rintro σ H3 h
        exact h
    · rintro σ H3 ⟨c, ms, y6, rfl, s4, hc⟩
      -- any second row
      refine ⟨fun σ H' => ∃ (c : Addr) (s : List Int) (many : Int) (y6 : Option V), σ = [some (.ref a), some (.ref dl), some (.int (n : Int)), some (.ref fa), some (.ref c), some (.int many), y6, none, none, none, none] ∧ Same H2 H' ∧ H' c = some (.tup (s.map V.int)) ∧ Row n s ∧
        ((inv (rel f s) : Nat) : Int) ≤ many ∧ ((inv (rel s f) : Nat) : Int) ≤ many, ?_, ?_⟩
      · refine ⟨.ref dl, rfl, dl, _, _, _, rfl, rfl, SqL.of (s4 _ _ hdl2), g1, rfl, _, rfl, ?_⟩
        refine ite2 (fun _ => ?_) (fun _ => ?_)
        · refine ⟨.ref a, rfl, a, ns, 2, rfl, (sH2.trans s4).seq hA, fun c2 => ?_⟩
          refine ⟨_, _, rfl, rfl, .int (n : Int), rfl, _, n, rfl, hn, fun H4 c' s s5 nc' hc' hs => ?_⟩
          refine ⟨.int (n : Int), rfl, .int (n : Int), rfl, (n : Int), (n : Int), rfl, rfl, .inl ⟨by omega, by omega⟩, ?_⟩
          have m1 : ((inv (rel f s) : Nat) : Int) ≤ (n : Int) * (n : Int) := by
            rw [← Int.natCast_mul]
            exact Int.ofNat_le.mpr (inv_rel_le hf)
          have m2 : ((inv (rel s f) : Nat) : Int) ≤ (n : Int) * (n : Int) := by
            rw [← Int.natCast_mul]
            exact Int.ofNat_le.mpr (inv_rel_le hs)
          exact ⟨c', s, (n : Int) * (n : Int), y6, rfl, s4.trans s5, hc', hs, m1, m2⟩
        · exact ⟨c, run f ms, _, y6, rfl, s4, hc, hf.run ms, Int.ofNat_le.mpr (fewest (hf.run ms) rfl), Int.ofNat_le.mpr (fewest_back hf rfl)⟩
      · rintro σ H4 ⟨c, s, many, y6, rfl, s5, hc, hs, hm1, hm2⟩
        have hfa4 := s5 _ _ hfa
        refine ⟨.ref fa, rfl, .ref c, rfl, (by show 2 ≤ sizeLine; decide), fun t1 nt1 => ?_⟩
        refine ⟨.ref c, rfl, .ref fa, rfl, (by show 2 ≤ sizeLine; decide), fun t2 nt2 => ?_⟩
        refine ⟨(by show 2 ≤ sizeLine; decide), fun l2 nl2 => ?_⟩
        have u1 : Same H4 (upd H4 t1 (.tup [.ref fa, .ref c])) := same_upd nt1
        have u2 : Same (upd H4 t1 (.tup [.ref fa, .ref c])) (upd (upd H4 t1 (.tup [.ref fa, .ref c])) t2 (.tup [.ref c, .ref fa])) := same_upd nt2
        generalize hH5 : upd (upd H4 t1 (.tup [.ref fa, .ref c])) t2 (.tup [.ref c, .ref fa]) = H5 at u2 nl2 ⊢
        have ht1 : H5 t1 = some (.tup [.ref fa, .ref c]) := u2 _ _ upd_same
        have ht2 : H5 t2 = some (.tup [.ref c, .ref fa]) := by rw [← hH5]; exact upd_same
        have s6 : Same H2 H5 := (s5.trans u1).trans u2
        have hfa5 := u2 _ _ (u1 _ _ hfa4)
        have hc5 := u2 _ _ (u1 _ _ hc)
        refine ⟨l2, rfl, ⟨_, SqL.of upd_same⟩, ?_⟩
        have u3 : Same H5 (upd H5 l2 (.lst [.ref t1, .ref t2])) := same_upd nl2
        refine for_list (K := K) (a := l2) (xs := [.ref t1, .ref t2]) (fun j σ H' => ∃ (y6 y7 y8 y9 y10 : Option V), σ = [some (.ref a), some (.ref dl), some (.int (n : Int)), some (.ref fa), some (.ref c), some (.int many), y6, y7, y8, y9, y10] ∧ Same H5 H' ∧ H' l2 = some (.lst [.ref t1, .ref t2]))
          ⟨y6, none, none, none, none, rfl, u3, upd_same⟩ (fun j σ H' _ ⟨_, _, _, _, _, _, _, e⟩ => SqL.of e) ?_ ?_
        · rintro j y σ H6 hy ⟨y6, y7, y8, y9, y10, rfl, s7, hl2⟩
          obtain ⟨t, u, v, r, r', rfl, ht, hu, hv, hr1, hr2, hmany⟩ : ∃ (t u v : Addr) (r r' : List Int), y = .ref t ∧ H5 t = some (.tup [.ref u, .ref v]) ∧ H5 u = some (.tup (r.map V.int)) ∧ H5 v = some (.tup (r'.map V.int)) ∧ Row n r ∧ Row n r' ∧ ((inv (rel r r') : Nat) : Int) ≤ many := by
            match j, hy with
            | 0, hy => exact ⟨t1, fa, c, f, s, (Option.some.inj hy).symm, ht1, hfa5, hc5, hf, hs, hm1⟩
            | 1, hy => exact ⟨t2, c, fa, s, f, (Option.some.inj hy).symm, ht2, hc5, hfa5, hs, hf, hm2⟩
            | j + 2, hy => simp at hy
          refine ⟨t, [.ref u, .ref v], rfl, SqT.of (s7 _ _ ht), rfl, .ref u, [.ref v], rfl, .ref v, [], rfl, rfl, ?_⟩
          have hu6 := s7 _ _ hu
          have hv6 := s7 _ _ hv
          -- least_nexts
          refine ⟨.ref u, rfl, .ref v, rfl, u, v, n, r, r', rfl, SqT.of hu6, SqT.of hv6, hr1, hr2, hn, fun H7 s8 => ?_⟩
          refine ⟨.int ((inv (rel r r') : Nat) : Int), rfl, _, rfl, true, rfl, ?_⟩
          refine iteF ?_
          refine ⟨.int ((inv (rel r r') : Nat) : Int), rfl, _, _, rfl, rfl, _, rfl, ?_⟩
          refine ite2 (fun e => absurd (of_decide_eq_true e) (by omega)) (fun _ => ?_)
          refine ⟨.int ((inv (rel r r') : Nat) : Int), rfl, .int many, rfl, _, _, rfl, rfl, _, rfl, ?_⟩
          refine ite2 (fun e => absurd (of_decide_eq_true e) (by omega)) (fun _ => ?_)
          -- next_script
          refine ⟨.ref u, rfl, .ref v, rfl, u, v, n, r, r', rfl, SqT.of (s8 _ _ hu6), SqT.of (s8 _ _ hv6), hr1, hr2, hn, fun H8 p ps ms s9 np hp mv low hlen hrun => ?_⟩
          refine ⟨.ref p, rfl, .ref p, .ty "tuple", .type "tuple", .type "tuple", true, rfl, .ty _, .base (.tup hp), kit_ty (by decide +kernel), true, rfl, ?_⟩
          refine iteF ?_
          refine ⟨.ref p, rfl, p, _, rfl, .inr (SqT.of hp), .int ((inv (rel r r') : Nat) : Int), rfl, rfl, _, rfl, ?_⟩
          refine iteNS (by rw [List.length_map, mv.1, hlen]) ?_
          refine ⟨.ref u, rfl, .ref v, rfl, .ref p, rfl, u, v, p, r, r', ps, ms, rfl, SqT.of (s9 _ _ (s8 _ _ hu6)), SqT.of (s9 _ _ (s8 _ _ hv6)), SqT.of hp, mv, fun i hi => by rw [hr1.len]; exact low i hi, hrun, fun H9 s10 => ?_⟩
          refine ⟨true, rfl, ?_⟩
          refine iteF ?_
          have s11 := (s8.trans s9).trans s10
          exact ⟨y6, some (.ref u), some (.ref v), some (.int ((inv (rel r r') : Nat) : Int)), some (.ref p), rfl, s7.trans s11, s11 _ _ hl2⟩
        · rintro σ H6 ⟨y6, y7, y8, y9, y10, rfl, s7, hl2⟩
          refine ⟨.ref fa, rfl, .ref fa, rfl, fa, fa, n, f, f, rfl, SqT.of (s7 _ _ hfa5), SqT.of (s7 _ _ hfa5), hf, hf, hn, fun H7 s8 => ?_⟩
          refine ⟨rfl, ?_⟩
          rw [inv_self hf]
          exact q _
end
end NX
namespace NX
open PySem PySem.Spec PyProof.Rows L2
/-! ### what the top has written -/
theorem all_mk {l : PySem.W.OpenLaw} {w : World} {K : PySem.W.Frag} {h : Heap} {mg : Str → Option Value} {fa f1 f2 f3 f4 f5 f6 f7 f8 f9 f10 f11 f12 f13 f14 f15 f16 : Addr} (X : K.In h) (G : h.Ns mainGlobals mg) (hfa : mg "law" = some (.ref fa))
    {od1 an1 od2 an2 od3 an3 od4 an4 od5 an5 od6 an6 od7 an7 od8 an8 od9 an9 od10 an10 od11 an11 od12 an12 od13 an13 od14 an14 od15 an15 od16 an16 : Option Addr} {sl1 sl2 sl3 sl4 sl5 sl6 sl7 sl8 sl9 sl10 sl11 sl12 sl13 sl14 sl15 sl16 : Array (Option Value)} {oc1 kV1 dc1 pm1 cd1 ct1 oc2 kV2 dc2 pm2 cd2 ct2 oc3 kV3 dc3 pm3 cd3 ct3 oc4 kV4 dc4 pm4 cd4 ct4 oc5 kV5 dc5 pm5 cd5 ct5 oc6 kV6 dc6 pm6 cd6 ct6 oc7 kV7 dc7 pm7 cd7 ct7 oc8 kV8 dc8 pm8 cd8 ct8 oc9 kV9 dc9 pm9 cd9 ct9 oc10 kV10 dc10 pm10 cd10 ct10 oc11 kV11 dc11 pm11 cd11 ct11 oc12 kV12 dc12 pm12 cd12 ct12 oc13 kV13 dc13 pm13 cd13 ct13 oc14 kV14 dc14 pm14 cd14 ct14 oc15 kV15 dc15 pm15 cd15 ct15 oc16 kV16 dc16 pm16 cd16 ct16 : Value} {tm : Tok}
    (a1 : PySem.W.nsIn K mainGlobals "check_row" = some (some (.ref f1))) (l1 : K.lookup f1 = some ⟨oc1, od1, .func (PySem.W.fnOf "check_row" "check_row" (defArgs sCheck) (defBody sCheck) (defScope sCheck) .none kV1 dc1 pm1 an1 cd1 ct1), sl1⟩) (c1 : PySem.W.codeIn K cd1 "check_row" = true) (k1 : PySem.W.keepIn K (.ref f1) = true)
    (a2 : PySem.W.nsIn K mainGlobals "need_same_length" = some (some (.ref f2))) (l2 : K.lookup f2 = some ⟨oc2, od2, .func (PySem.W.fnOf "need_same_length" "need_same_length" (defArgs sSame) (defBody sSame) (defScope sSame) .none kV2 dc2 pm2 an2 cd2 ct2), sl2⟩) (c2 : PySem.W.codeIn K cd2 "need_same_length" = true) (k2 : PySem.W.keepIn K (.ref f2) = true)
    (a3 : PySem.W.nsIn K mainGlobals "relative_row" = some (some (.ref f3))) (l3 : K.lookup f3 = some ⟨oc3, od3, .func (PySem.W.fnOf "relative_row" "relative_row" (defArgs sRel) (defBody sRel) (defScope sRel) .none kV3 dc3 pm3 an3 cd3 ct3), sl3⟩) (c3 : PySem.W.codeIn K cd3 "relative_row" = true) (k3 : PySem.W.keepIn K (.ref f3) = true)
    (a4 : PySem.W.nsIn K mainGlobals "swapped" = some (some (.ref f4))) (l4 : K.lookup f4 = some ⟨oc4, od4, .func (PySem.W.fnOf "swapped" "swapped" (defArgs sSwapped) (defBody sSwapped) (defScope sSwapped) .none kV4 dc4 pm4 an4 cd4 ct4), sl4⟩) (c4 : PySem.W.codeIn K cd4 "swapped" = true) (k4 : PySem.W.keepIn K (.ref f4) = true)
    (a5 : PySem.W.nsIn K mainGlobals "wrong_pairs" = some (some (.ref f5))) (l5 : K.lookup f5 = some ⟨oc5, od5, .func (PySem.W.fnOf "wrong_pairs" "wrong_pairs" (defArgs sWrong) (defBody sWrong) (defScope sWrong) .none kV5 dc5 pm5 an5 cd5 ct5), sl5⟩) (c5 : PySem.W.codeIn K cd5 "wrong_pairs" = true) (k5 : PySem.W.keepIn K (.ref f5) = true)
    (a6 : PySem.W.nsIn K mainGlobals "least_nexts" = some (some (.ref f6))) (l6 : K.lookup f6 = some ⟨oc6, od6, .func (PySem.W.fnOf "least_nexts" "least_nexts" (defArgs sLeast) (defBody sLeast) (defScope sLeast) .none kV6 dc6 pm6 an6 cd6 ct6), sl6⟩) (c6 : PySem.W.codeIn K cd6 "least_nexts" = true) (k6 : PySem.W.keepIn K (.ref f6) = true)
    (a7 : PySem.W.nsIn K mainGlobals "next_script" = some (some (.ref f7))) (l7 : K.lookup f7 = some ⟨oc7, od7, .func (PySem.W.fnOf "next_script" "next_script" (defArgs sScript) (defBody sScript) (defScope sScript) .none kV7 dc7 pm7 an7 cd7 ct7), sl7⟩) (c7 : PySem.W.codeIn K cd7 "next_script" = true) (k7 : PySem.W.keepIn K (.ref f7) = true)
    (a8 : PySem.W.nsIn K mainGlobals "_law_cell" = some (some (.ref f8))) (l8 : K.lookup f8 = some ⟨oc8, od8, .func (PySem.W.fnOf "_law_cell" "_law_cell" (defArgs sCell) (defBody sCell) (defScope sCell) .none kV8 dc8 pm8 an8 cd8 ct8), sl8⟩) (c8 : PySem.W.codeIn K cd8 "_law_cell" = true) (k8 : PySem.W.keepIn K (.ref f8) = true)
    (a9 : PySem.W.nsIn K mainGlobals "_law_digits" = some (some (.ref f9))) (l9 : K.lookup f9 = some ⟨oc9, od9, .func (PySem.W.fnOf "_law_digits" "_law_digits" (defArgs sDigits) (defBody sDigits) (defScope sDigits) .none kV9 dc9 pm9 an9 cd9 ct9), sl9⟩) (c9 : PySem.W.codeIn K cd9 "_law_digits" = true) (k9 : PySem.W.keepIn K (.ref f9) = true)
    (a10 : PySem.W.nsIn K mainGlobals "_law_rich" = some (some (.ref f10))) (l10 : K.lookup f10 = some ⟨oc10, od10, .func (PySem.W.fnOf "_law_rich" "_law_rich" (defArgs sRich) (defBody sRich) (defScope sRich) .none kV10 dc10 pm10 an10 cd10 ct10), sl10⟩) (c10 : PySem.W.codeIn K cd10 "_law_rich" = true) (k10 : PySem.W.keepIn K (.ref f10) = true)
    (a11 : PySem.W.nsIn K mainGlobals "_law_row" = some (some (.ref f11))) (l11 : K.lookup f11 = some ⟨oc11, od11, .func (PySem.W.fnOf "_law_row" "_law_row" (defArgs sRow) (defBody sRow) (defScope sRow) .none kV11 dc11 pm11 an11 cd11 ct11), sl11⟩) (c11 : PySem.W.codeIn K cd11 "_law_row" = true) (k11 : PySem.W.keepIn K (.ref f11) = true)
    (a12 : PySem.W.nsIn K mainGlobals "_law_plain_move" = some (some (.ref f12))) (l12 : K.lookup f12 = some ⟨oc12, od12, .func (PySem.W.fnOf "_law_plain_move" "_law_plain_move" (defArgs sMove) (defBody sMove) (defScope sMove) .none kV12 dc12 pm12 an12 cd12 ct12), sl12⟩) (c12 : PySem.W.codeIn K cd12 "_law_plain_move" = true) (k12 : PySem.W.keepIn K (.ref f12) = true)
    (a13 : PySem.W.nsIn K mainGlobals "_law_moved" = some (some (.ref f13))) (l13 : K.lookup f13 = some ⟨oc13, od13, .func (PySem.W.fnOf "_law_moved" "_law_moved" (defArgs sMoved) (defBody sMoved) (defScope sMoved) .none kV13 dc13 pm13 an13 cd13 ct13), sl13⟩) (c13 : PySem.W.codeIn K cd13 "_law_moved" = true) (k13 : PySem.W.keepIn K (.ref f13) = true)
    (a14 : PySem.W.nsIn K mainGlobals "_law_is_integer" = some (some (.ref f14))) (l14 : K.lookup f14 = some ⟨oc14, od14, .func (PySem.W.fnOf "_law_is_integer" "_law_is_integer" (defArgs sIsInt) (defBody sIsInt) (defScope sIsInt) .none kV14 dc14 pm14 an14 cd14 ct14), sl14⟩) (c14 : PySem.W.codeIn K cd14 "_law_is_integer" = true) (k14 : PySem.W.keepIn K (.ref f14) = true)
    (a15 : PySem.W.nsIn K mainGlobals "_law_leads" = some (some (.ref f15))) (l15 : K.lookup f15 = some ⟨oc15, od15, .func (PySem.W.fnOf "_law_leads" "_law_leads" (defArgs sLeads) (defBody sLeads) (defScope sLeads) .none kV15 dc15 pm15 an15 cd15 ct15), sl15⟩) (c15 : PySem.W.codeIn K cd15 "_law_leads" = true) (k15 : PySem.W.keepIn K (.ref f15) = true)
    (a16 : PySem.W.nsIn K mainGlobals "law" = some (some (.ref f16))) (l16 : K.lookup f16 = some ⟨oc16, od16, .func (PySem.W.fnOf "law" "law" (defArgs sLaw) (defBody sLaw) (defScope sLaw) .none kV16 dc16 pm16 an16 cd16 ct16), sl16⟩) (c16 : PySem.W.codeIn K cd16 "law" = true) (k16 : PySem.W.keepIn K (.ref f16) = true)
    (z1 : PySem.W.nsIn K mainGlobals "len" = some none)
    (z2 : PySem.W.nsIn K mainGlobals "sorted" = some none)
    (z3 : PySem.W.nsIn K mainGlobals "list" = some none)
    (z4 : PySem.W.nsIn K mainGlobals "range" = some none)
    (z5 : PySem.W.nsIn K mainGlobals "tuple" = some none)
    (z6 : PySem.W.nsIn K mainGlobals "int" = some none)
    (z7 : PySem.W.nsIn K mainGlobals "bool" = some none)
    (z8 : PySem.W.nsIn K mainGlobals "isinstance" = some none)
    (zm : PySem.W.nsIn K mainGlobals "MOST_PIECES" = some (some (.int 40 tm))) :
    ∃ fd : FuncData, (∀ (s : Shared) (v : Value), BindsTo s fd ⟨[v], []⟩ [("_law_script", v)]) ∧ ∀ base : Heap, K.In base → base.Ns mainGlobals mg → FnOk l.prog w K mg base CX0 4 fa fd ["_law_script"] (spLaw K) := by
  have e := hfa.symm.trans (PySem.W.mg_of X G a16)
  cases e
  have T : Txt mg := ⟨PySem.W.mg_none_of X G z1, PySem.W.mg_none_of X G z2, PySem.W.mg_none_of X G z3, PySem.W.mg_none_of X G z4, PySem.W.mg_none_of X G z5, PySem.W.mg_none_of X G z6, PySem.W.mg_none_of X G z7, PySem.W.mg_none_of X G z8, ⟨_, PySem.W.mg_of X G zm⟩⟩
  have F1 := fun_mk (st := sCheck) l1 c1 k1
  have b1 := F1.binds (ps := ["row"]) fun _ _ _ _ _ _ us hl => match us, hl with | [_], _ => rfl
  have F2 := fun_mk (st := sSame) l2 c2 k2
  have b2 := F2.binds (ps := ["first", "second"]) fun _ _ _ _ _ _ us hl => match us, hl with | [_, _], _ => rfl
  have F3 := fun_mk (st := sRel) l3 c3 k3
  have b3 := F3.binds (ps := ["first", "second"]) fun _ _ _ _ _ _ us hl => match us, hl with | [_, _], _ => rfl
  have F4 := fun_mk (st := sSwapped) l4 c4 k4
  have b4 := F4.binds (ps := ["row", "i", "j"]) fun _ _ _ _ _ _ us hl => match us, hl with | [_, _, _], _ => rfl
  have F5 := fun_mk (st := sWrong) l5 c5 k5
  have b5 := F5.binds (ps := ["row"]) fun _ _ _ _ _ _ us hl => match us, hl with | [_], _ => rfl
  have F6 := fun_mk (st := sLeast) l6 c6 k6
  have b6 := F6.binds (ps := ["first", "second"]) fun _ _ _ _ _ _ us hl => match us, hl with | [_, _], _ => rfl
  have F7 := fun_mk (st := sScript) l7 c7 k7
  have b7 := F7.binds (ps := ["first", "second"]) fun _ _ _ _ _ _ us hl => match us, hl with | [_, _], _ => rfl
  have F8 := fun_mk (st := sCell) l8 c8 k8
  have b8 := F8.binds (ps := ["_law_script", "_law_k"]) fun _ _ _ _ _ _ us hl => match us, hl with | [_, _], _ => rfl
  have F9 := fun_mk (st := sDigits) l9 c9 k9
  have b9 := F9.binds (ps := ["_law_cell_here", "_law_sizes"]) fun _ _ _ _ _ _ us hl => match us, hl with | [_, _], _ => rfl
  have F10 := fun_mk (st := sRich) l10 c10 k10
  have b10 := F10.binds (ps := ["_law_cell_here"]) fun _ _ _ _ _ _ us hl => match us, hl with | [_], _ => rfl
  have F11 := fun_mk (st := sRow) l11 c11 k11
  have b11 := F11.binds (ps := ["_law_cell_here", "_law_n"]) fun _ _ _ _ _ _ us hl => match us, hl with | [_, _], _ => rfl
  have F12 := fun_mk (st := sMove) l12 c12 k12
  have b12 := F12.binds (ps := ["_law_kind", "_law_cell_here", "_law_n"]) fun _ _ _ _ _ _ us hl => match us, hl with | [_, _, _], _ => rfl
  have F13 := fun_mk (st := sMoved) l13 c13 k13
  have b13 := F13.binds (ps := ["_law_row_here", "_law_move"]) fun _ _ _ _ _ _ us hl => match us, hl with | [_, _], _ => rfl
  have F14 := fun_mk (st := sIsInt) l14 c14 k14
  have b14 := F14.binds (ps := ["_law_actual"]) fun _ _ _ _ _ _ us hl => match us, hl with | [_], _ => rfl
  have F15 := fun_mk (st := sLeads) l15 c15 k15
  have b15 := F15.binds (ps := ["_law_first", "_law_second", "_law_moves"]) fun _ _ _ _ _ _ us hl => match us, hl with | [_, _, _], _ => rfl
  have F16 := fun_mk (st := sLaw) l16 c16 k16
  refine ⟨PySem.W.fnOf "law" "law" (defArgs sLaw) (defBody sLaw) (defScope sLaw) .none kV16 dc16 pm16 an16 cd16 ct16, fun s v => .of_eq rfl, fun base _ _ => ?_⟩
  have C1 : Cal l.prog w K mg base 1 "check_row" (spCheck K) := ⟨_, _, _, _, ok_check F1 T, PySem.W.mg_of X G a1, k1, b1, .nil⟩
  have C2 : Cal l.prog w K mg base 1 "need_same_length" (spSame K) := ⟨_, _, _, _, ok_same F2 T, PySem.W.mg_of X G a2, k2, b2, .nil⟩
  have C3 : Cal l.prog w K mg base 2 "relative_row" (spRel K) := ⟨_, _, _, _, ok_rel F3 T C1 C2, PySem.W.mg_of X G a3, k3, b3, .nil⟩
  have C4 : Cal l.prog w K mg base 1 "swapped" (spSwapped K) := ⟨_, _, _, _, ok_swapped F4 T, PySem.W.mg_of X G a4, k4, b4, .nil⟩
  have C5 : Cal l.prog w K mg base 1 "wrong_pairs" (spWrong K) := ⟨_, _, _, _, ok_wrong F5 T, PySem.W.mg_of X G a5, k5, b5, .nil⟩
  have C6 : Cal l.prog w K mg base 3 "least_nexts" (spLeast K) := ⟨_, _, _, _, ok_least F6 T C3 C5, PySem.W.mg_of X G a6, k6, b6, .nil⟩
  have C7 : Cal l.prog w K mg base 3 "next_script" (spScript K) := ⟨_, _, _, _, ok_script F7 T C3 C4, PySem.W.mg_of X G a7, k7, b7, .nil⟩
  have C8 : Cal l.prog w K mg base 1 "_law_cell" (spLCell K) := ⟨_, _, _, _, ok_cell F8 T, PySem.W.mg_of X G a8, k8, b8, .nil⟩
  have C9 : Cal l.prog w K mg base 1 "_law_digits" (spDigits K) := ⟨_, _, _, _, ok_digits F9 T, PySem.W.mg_of X G a9, k9, b9, .nil⟩
  have C10 : Cal l.prog w K mg base 1 "_law_rich" spRich := ⟨_, _, _, _, ok_rich F10 T, PySem.W.mg_of X G a10, k10, b10, .nil⟩
  have C11 : Cal l.prog w K mg base 2 "_law_row" spRow := ⟨_, _, _, _, ok_row F11 T C10, PySem.W.mg_of X G a11, k11, b11, .nil⟩
  have C12 : Cal l.prog w K mg base 2 "_law_plain_move" spMove := ⟨_, _, _, _, ok_move F12 T C10 C9, PySem.W.mg_of X G a12, k12, b12, .nil⟩
  have C13 : Cal l.prog w K mg base 1 "_law_moved" (spMoved K) := ⟨_, _, _, _, ok_moved F13 T, PySem.W.mg_of X G a13, k13, b13, .nil⟩
  have C14 : Cal l.prog w K mg base 1 "_law_is_integer" spIsInt := ⟨_, _, _, _, ok_isint F14 T, PySem.W.mg_of X G a14, k14, b14, .nil⟩
  have C15 : Cal l.prog w K mg base 2 "_law_leads" (spLeads K) := ⟨_, _, _, _, ok_leads F15 T C14 C13, PySem.W.mg_of X G a15, k15, b15, .nil⟩
  exact ok_law F16 T ⟨C8, C10, C9, C11, C12, C13, C14, C15, C6, C7⟩
end NX
open PySem PySem.W PyProof.Rows
set_option maxRecDepth 100000 in
set_option maxHeartbeats 0 in
theorem PySem.Challenge.cw_turnedrows_k06_whole_nexts_none_fewer_holds : PySem.Challenge.rw_turnedrows_k06_whole_nexts_none_fewer.Holds := by
  w_on; o_law; k_head; (case hw => w_witness2)
  k_fill
  refine L2.walk_of (l := PySem.Challenge.rw_turnedrows_k06_whole_nexts_none_fewer) (n := 63) (k := 4) (x := "_law_script") (CX := fun _ => L2.CX0) (sp := fun w => NX.spLaw _) rfl (by decide) rfl ⟨rfl, by decide, by decide⟩ (fun w h Y => PySem.W.kIn_of Y) ?F (fun _ _ a ns hl _ hS => ⟨a, ns, rfl, hS, fun _ => rfl⟩) (fun _ _ _ _ _ h => h)
  case F =>
    intro w mg fa h KX G hmg
    refine' NX.all_mk KX G hmg ?a1 ?l1 ?c1 ?k1 ?a2 ?l2 ?c2 ?k2 ?a3 ?l3 ?c3 ?k3 ?a4 ?l4 ?c4 ?k4 ?a5 ?l5 ?c5 ?k5 ?a6 ?l6 ?c6 ?k6 ?a7 ?l7 ?c7 ?k7 ?a8 ?l8 ?c8 ?k8 ?a9 ?l9 ?c9 ?k9 ?a10 ?l10 ?c10 ?k10 ?a11 ?l11 ?c11 ?k11 ?a12 ?l12 ?c12 ?k12 ?a13 ?l13 ?c13 ?k13 ?a14 ?l14 ?c14 ?k14 ?a15 ?l15 ?c15 ?k15 ?a16 ?l16 ?c16 ?k16 ?z1 ?z2 ?z3 ?z4 ?z5 ?z6 ?z7 ?z8 ?zm
    (case a1 => k_is)
    (case l1 => k_is)
    (case c1 => k_is)
    (case k1 => k_is)
    (case a2 => k_is)
    (case l2 => k_is)
    (case c2 => k_is)
    (case k2 => k_is)
    (case a3 => k_is)
    (case l3 => k_is)
    (case c3 => k_is)
    (case k3 => k_is)
    (case a4 => k_is)
    (case l4 => k_is)
    (case c4 => k_is)
    (case k4 => k_is)
    (case a5 => k_is)
    (case l5 => k_is)
    (case c5 => k_is)
    (case k5 => k_is)
    (case a6 => k_is)
    (case l6 => k_is)
    (case c6 => k_is)
    (case k6 => k_is)
    (case a7 => k_is)
    (case l7 => k_is)
    (case c7 => k_is)
    (case k7 => k_is)
    (case a8 => k_is)
    (case l8 => k_is)
    (case c8 => k_is)
    (case k8 => k_is)
    (case a9 => k_is)
    (case l9 => k_is)
    (case c9 => k_is)
    (case k9 => k_is)
    (case a10 => k_is)
    (case l10 => k_is)
    (case c10 => k_is)
    (case k10 => k_is)
    (case a11 => k_is)
    (case l11 => k_is)
    (case c11 => k_is)
    (case k11 => k_is)
    (case a12 => k_is)
    (case l12 => k_is)
    (case c12 => k_is)
    (case k12 => k_is)
    (case a13 => k_is)
    (case l13 => k_is)
    (case c13 => k_is)
    (case k13 => k_is)
    (case a14 => k_is)
    (case l14 => k_is)
    (case c14 => k_is)
    (case k14 => k_is)
    (case a15 => k_is)
    (case l15 => k_is)
    (case c15 => k_is)
    (case k15 => k_is)
    (case a16 => k_is)
    (case l16 => k_is)
    (case c16 => k_is)
    (case k16 => k_is)
    (case z1 => k_is)
    (case z2 => k_is)
    (case z3 => k_is)
    (case z4 => k_is)
    (case z5 => k_is)
    (case z6 => k_is)
    (case z7 => k_is)
    (case z8 => k_is)
    (case zm => k_is)
