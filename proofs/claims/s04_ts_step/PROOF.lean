import PyProof.Rows.All
import Wide.All
import OpenK.AllK
import Wide.FinOn
import Open.SpecLaws
import KE.OsGo
import HandS.Base
import HandS.Call
import HandS.List
import HandS.Comp
import HandS.Ends
import HandS.Iter
import HandS.Walk
import HandS.Exc
import HandS.TryOnly
import HandS.ExcOwn
import HandS.Spec
import HandS.Words
import HandS.WordsList
import HandS.WordsExc
import PySem.Challenge.RW_shapestep_s04_ts_step
set_option Elab.async false
set_option linter.all false
set_option maxRecDepth 100000
set_option maxHeartbeats 2000000
namespace Sh
/-! ### 2. The mathematics: lists of whole numbers from 0 on, no program in sight -/
/-- g: the different numbers above 3 of l, rising -/
structure IsGreat (l g : List Nat) : Prop where
  mem : ∀ m, m ∈ g ↔ m ∈ l ∧ 3 < m
  up : g.Pairwise (· < ·)
  few : g.length ≤ l.length
theorem nodup_eraseDups : ∀ (n : Nat) (l : List Nat), l.length ≤ n → l.eraseDups.Nodup
  | _, [], _ => by simp
  | 0, a :: r, h => by simp at h
  | n + 1, a :: r, h => by
    rw [List.eraseDups_cons]
    refine List.nodup_cons.mpr ⟨?_, nodup_eraseDups n _ ?_⟩
    · rw [List.mem_eraseDups, List.mem_filter]
      rintro ⟨_, h2⟩
      simp at h2
    · have := List.length_filter_le (fun b => !b == a) r
      simp only [List.length_cons] at h
      omega
theorem far_nodup (l : List Nat) : (Kp126.far l).Nodup := nodup_eraseDups _ _ (Nat.le_refl _)
theorem far_mem (l : List Nat) (m : Nat) : m ∈ Kp126.far l ↔ m ∈ l ∧ 3 < m := by
  unfold Kp126.far
  rw [List.mem_eraseDups, List.mem_filter, decide_eq_true_eq]
theorem up_nodup {g : List Nat} (h : g.Pairwise (· < ·)) : g.Nodup := h.imp (fun h => Nat.ne_of_lt h)
theorem IsGreat.perm {l g : List Nat} (h : IsGreat l g) : g.Perm (Kp126.far l) := by
  refine (List.perm_ext_iff_of_nodup (up_nodup h.up) (far_nodup l)).mpr fun m => ?_
  rw [h.mem, far_mem]
theorem IsGreat.len {l g : List Nat} (h : IsGreat l g) : g.length = (Kp126.far l).length := h.perm.length_eq
theorem IsGreat.less {l g : List Nat} (h : IsGreat l g) (n : Nat) : (g.filter fun m => decide (m < n)).length = ((Kp126.far l).filter fun m => decide (m < n)).length := (h.perm.filter _).length_eq
/-- what a shape has of n, by g -/
def told (g : List Nat) (n : Nat) : Nat := if 3 < n then 4 + (g.filter fun m => decide (m < n)).length else n
theorem shape_told {l g : List Nat} (h : IsGreat l g) : l.map (told g) = Kp126.shapeOf l := by
  unfold Kp126.shapeOf
  refine List.map_congr_left fun n _ => ?_
  unfold told
  rw [h.less]
  by_cases c : n ≤ 3
  · rw [if_pos c, if_neg (by omega)]
  · rw [if_neg c, if_pos (by omega)]
/-- one item more -/
theorem take_more {α : Type} {l : List α} {i : Nat} {x : α} (h : l[i]? = some x) : l.take (i + 1) = l.take i ++ [x] := by
  obtain ⟨h1, rfl⟩ := List.getElem?_eq_some_iff.mp h
  exact (List.take_append_getElem h1).symm
/-- the loop of great_ones -/
theorem IsGreat.nil : IsGreat [] [] := ⟨fun m => by simp, .nil, Nat.le_refl _⟩
theorem great_skip {l g : List Nat} {n : Nat} (h : IsGreat l g) (c : ¬ 3 < n ∨ n ∈ g) : IsGreat (l ++ [n]) g := by
  refine ⟨fun m => ?_, h.up, by have := h.few; rw [List.length_append]; omega⟩
  rw [h.mem, List.mem_append, List.mem_singleton]
  constructor
  · rintro ⟨a, b⟩
    exact ⟨.inl a, b⟩
  · rintro ⟨a | rfl, b⟩
    · exact ⟨a, b⟩
    · rcases c with c | c
      · exact absurd b c
      · exact (h.mem _).mp c
theorem great_add {l g : List Nat} {n : Nat} (h : IsGreat l g) (c : 3 < n) (hn : n ∉ g) (hl : ∀ m ∈ l, m ≤ n) : IsGreat (l ++ [n]) (g ++ [n]) := by
  refine ⟨fun m => ?_, ?_, by have := h.few; rw [List.length_append, List.length_append, List.length_singleton]; omega⟩
  · rw [List.mem_append, List.mem_singleton, h.mem, List.mem_append, List.mem_singleton]
    constructor
    · rintro (⟨a, b⟩ | rfl)
      · exact ⟨.inl a, b⟩
      · exact ⟨.inr rfl, c⟩
    · rintro ⟨a | rfl, b⟩
      · exact .inl ⟨a, b⟩
      · exact .inr rfl
  · refine List.pairwise_append.mpr ⟨h.up, List.pairwise_singleton _ _, fun a ha b hb => ?_⟩
    rw [List.mem_singleton] at hb
    subst hb
    have := hl a ((h.mem a).mp ha).1
    have : a ≠ b := fun e => hn (e ▸ ha)
    omega
theorem IsGreat.of_perm {l l' g : List Nat} (h : IsGreat l' g) (p : l'.Perm l) : IsGreat l g := ⟨fun m => by rw [h.mem, p.mem_iff], h.up, by rw [← p.length_eq]; exact h.few⟩
theorem up_take {l : List Nat} (h : l.Pairwise (· ≤ ·)) {i n : Nat} (hi : l[i]? = some n) : ∀ m ∈ l.take i, m ≤ n := by
  have e : l.take (i + 1) = l.take i ++ [n] := take_more hi
  have q : (l.take (i + 1)).Pairwise (· ≤ ·) := h.sublist (List.take_sublist _ _)
  rw [e] at q
  intro m hm
  exact (List.pairwise_append.mp q).2.2 m hm n (List.mem_singleton.mpr rfl)
/-- where n stands in g -/
theorem index_less : ∀ {g : List Nat} {n : Nat}, g.Pairwise (· < ·) → n ∈ g → g[(g.filter fun m => decide (m < n)).length]? = some n
  | [], n, _, h => by simp at h
  | a :: r, n, hp, h => by
    obtain ⟨h1, h2⟩ := List.pairwise_cons.mp hp
    rcases List.mem_cons.mp h with rfl | h
    · have e : (n :: r).filter (fun m => decide (m < n)) = [] := by
        rw [List.filter_eq_nil_iff]
        intro m hm
        rcases List.mem_cons.mp hm with rfl | hm
        · simp
        · have := h1 m hm
          simp
          omega
      rw [e]
      rfl
    · have ha := h1 n h
      rw [List.filter_cons_of_pos (by simpa using ha)]
      simpa using index_less h2 h
theorem index_before {g : List Nat} {n m j : Nat} (hp : g.Pairwise (· < ·)) (hj : j < (g.filter fun m => decide (m < n)).length) (hm : g[j]? = some m) (hn : n ∈ g) : m ≠ n := by
  rintro rfl
  have e := index_less hp hn
  obtain ⟨a1, a2⟩ := List.getElem?_eq_some_iff.mp hm
  obtain ⟨b1, b2⟩ := List.getElem?_eq_some_iff.mp e
  have := (List.getElem_inj (up_nodup hp)).mp (a2.trans b2.symm)
  omega
/-- the numbers of the others -/
theorem erase_at {l : List Nat} {i v n : Nat} (hi : l[i]? = some n) : (l.take (i + 1)).eraseIdx v = if i = v then (l.take i).eraseIdx v else (l.take i).eraseIdx v ++ [n] := by
  obtain ⟨hlt, _⟩ := List.getElem?_eq_some_iff.mp hi
  have hlen : (l.take i).length = i := by rw [List.length_take]; omega
  rw [take_more hi]
  by_cases c : v < i
  · rw [if_neg (by omega), List.eraseIdx_append_of_lt_length (by omega)]
  · rw [List.eraseIdx_append_of_length_le (by omega), hlen, List.eraseIdx_of_length_le (l := l.take i) (by omega)]
    by_cases e : i = v
    · subst e
      simp
    · rw [if_neg e, List.eraseIdx_of_length_le (by simp; omega)]
/-- a number as it is spread -/
def spread (g : List Nat) (n : Nat) : Nat := if 3 < n then 5 + 2 * (g.filter fun m => decide (m < n)).length else n
theorem apart_spread {l g : List Nat} {v : Nat} (h : IsGreat (l.eraseIdx v) g) : Kp126.apart l v = l.map (spread g) := by
  unfold Kp126.apart Kp126.others
  refine List.map_congr_left fun n _ => ?_
  unfold spread
  rw [h.less]
  by_cases c : n ≤ 3
  · rw [if_pos c, if_neg (by omega)]
  · rw [if_neg c, if_pos (by omega)]
theorem places_len {l g : List Nat} {v : Nat} (h : IsGreat (l.eraseIdx v) g) : Kp126.places l v = 5 + 2 * g.length := by
  unfold Kp126.places Kp126.others
  rw [h.len]
theorem others_great {l g : List Nat} {i v n : Nat} (h : IsGreat (l.eraseIdx v) g) (hi : l[i]? = some n) (e : i ≠ v) (c : 3 < n) : n ∈ g :=
  (h.mem n).mpr ⟨List.mem_eraseIdx_iff_getElem?.mpr ⟨i, e, hi⟩, c⟩
/-- one turn of with_place -/
theorem with_turn {l : List Nat} {g : List Nat} {i v c n : Nat} (hi : l[i]? = some n) : ((l.map (spread g)).set v c).take (i + 1) = ((l.map (spread g)).set v c).take i ++ [if i = v then c else spread g n] := by
  refine take_more ?_
  obtain ⟨hlt, e⟩ := List.getElem?_eq_some_iff.mp hi
  rw [List.getElem?_set]
  by_cases q : v = i
  · subst q
    simp [hlt]
  · rw [if_neg q, if_neg (fun z => q z.symm)]
    simp [hi]
/-- held[:v] + [n] + held[v + 1:] -/
theorem set_cut {l : List Nat} {v n : Nat} (h : v < l.length) : l.take v ++ [n] ++ l.drop (v + 1) = l.set v n := by
  rw [List.set_eq_take_append_cons_drop, if_pos h]
  simp
/-- what is held behind a step, as some numbers of the shape then -/
def bh (o : Kp126.Node) (c : Nat) (s : List Nat) : List Nat :=
  if o.kind = 1 then (Kp126.apart s o.v).set o.v c else if o.kind = 2 then s.set o.v o.c else if o.kind = 3 then s.set o.v (Kp126.held s o.w) else s
/-- whether what a step asks is so -/
def so (o : Kp126.Node) (s : List Nat) : Bool := if o.kind = 4 then decide (Kp126.held s o.v < Kp126.held s o.w) else (o.kind != 5 || decide (Kp126.held s o.v < o.c))
theorem bh_1 {o : Kp126.Node} {c : Nat} {s : List Nat} (h : o.kind = 1) : bh o c s = (Kp126.apart s o.v).set o.v c := if_pos h
theorem bh_2 {o : Kp126.Node} {c : Nat} {s : List Nat} (h : o.kind = 2) : bh o c s = s.set o.v o.c := by
  unfold bh
  rw [if_neg (by omega), if_pos h]
theorem bh_3 {o : Kp126.Node} {c : Nat} {s : List Nat} (h : o.kind = 3) : bh o c s = s.set o.v (Kp126.held s o.w) := by
  unfold bh
  rw [if_neg (by omega), if_neg (by omega), if_pos h]
theorem bh_else {o : Kp126.Node} {c : Nat} {s : List Nat} (h1 : ¬ o.kind = 1) (h2 : ¬ o.kind = 2) (h3 : ¬ o.kind = 3) : bh o c s = s := by
  unfold bh
  rw [if_neg h1, if_neg h2, if_neg h3]
theorem bh_len (o : Kp126.Node) (c : Nat) (s : List Nat) : (bh o c s).length = s.length := by
  unfold bh Kp126.apart
  split
  · rw [List.length_set, List.length_map]
  · split
    · rw [List.length_set]
    · split
      · rw [List.length_set]
      · rfl
theorem step_bh {o : Kp126.Node} {c : Nat} {s : List Nat} (h : Kp126.shapeOf s = s) : (Kp126.step o c s).2 = Kp126.shapeOf (bh o c s) := by
  unfold Kp126.step bh
  by_cases k0 : o.kind = 0
  · rw [if_pos k0, if_neg (by omega), if_neg (by omega), if_neg (by omega), h]
  rw [if_neg k0]
  by_cases k1 : o.kind = 1
  · rw [if_pos k1, if_pos k1]
  rw [if_neg k1, if_neg k1]
  by_cases k2 : o.kind = 2
  · rw [if_pos k2, if_pos k2]
  rw [if_neg k2, if_neg k2]
  by_cases k3 : o.kind = 3
  · rw [if_pos k3, if_pos k3]
  rw [if_neg k3, if_neg k3, h]
  by_cases k4 : o.kind = 4
  · rw [if_pos k4]
  rw [if_neg k4]
  by_cases k5 : o.kind = 5
  · rw [if_pos k5]
  rw [if_neg k5]
theorem step_ans (o : Kp126.Node) (c : Nat) (s : List Nat) : (Kp126.step o c s).1 = if o.kind = 0 then 2 else if so o s = true then 0 else 1 := by
  unfold Kp126.step so
  by_cases k0 : o.kind = 0
  · rw [if_pos k0, if_pos k0]
  rw [if_neg k0, if_neg k0]
  by_cases k4 : o.kind = 4
  · rw [if_neg (by omega), if_neg (by omega), if_neg (by omega), if_pos k4, if_pos k4]
    simp only [decide_eq_true_eq]
  · rw [if_neg k4]
    by_cases k5 : o.kind = 5
    · rw [if_neg (by omega), if_neg (by omega), if_neg (by omega), if_neg k4, if_pos k5]
      have e : (o.kind != 5) = false := by rw [k5]; rfl
      rw [e, Bool.false_or]
      simp only [decide_eq_true_eq]
    · have e : (o.kind != 5) = true := by simpa using k5
      rw [e, Bool.true_or, if_neg k4, if_pos rfl]
      split
      · rfl
      · split
        · rfl
        · split
          · rfl
          · rfl
/-- the parts of okNode, as the program asks them -/
def vars (o : Kp126.Node) (n : Nat) : Bool := !((o.kind == 3 || o.kind == 4) && decide (n ≤ o.w)) && (o.kind == 0 || decide (o.v < n))
def num (o : Kp126.Node) : Bool := if o.kind = 2 then decide (o.c ≤ 3) else (o.kind != 5 || (decide (1 ≤ o.c) && decide (o.c ≤ 4)))
theorem ok_node (o : Kp126.Node) (n : Nat) : Kp126.okNode n o = (!(decide (6 < o.kind) || !(o.none_ == 0)) && (vars o n && num o)) := by
  unfold Kp126.okNode vars num
  have e3 : (o.none_ == 0) = decide (o.none_ = 0) := by by_cases h : o.none_ = 0 <;> simp [h]
  rw [e3]
  have e1 : decide (o.kind ≤ 6) = !decide (6 < o.kind) := by by_cases h : o.kind ≤ 6 <;> simp [h, show 6 < o.kind ↔ ¬ o.kind ≤ 6 by omega]
  have e2 : decide (n ≤ o.w) = !decide (o.w < n) := by by_cases h : o.w < n <;> simp [h, show n ≤ o.w ↔ ¬ o.w < n by omega]
  rw [e1, e2]
  by_cases k2 : o.kind = 2
  · rw [if_pos k2]
    simp only [k2]
    cases decide (o.none_ = 0) <;> cases decide (o.v < n) <;> cases decide (o.w < n) <;> cases decide (o.c ≤ 3) <;> rfl
  · rw [if_neg k2]
    have e : (o.kind != 2) = true := by simpa using k2
    rw [e]
    cases decide (6 < o.kind) <;> cases decide (o.none_ = 0) <;> cases (o.kind == 0) <;> cases decide (o.v < n) <;> cases (o.kind == 3) <;> cases (o.kind == 4) <;> cases decide (o.w < n) <;> cases (o.kind != 5) <;> cases (decide (1 ≤ o.c) && decide (o.c ≤ 4)) <;> rfl
/-- what a step that is as told may lean on -/
theorem ok_named {o : Kp126.Node} {n : Nat} (h : Kp126.okNode n o = true) : (¬ o.kind = 0 → o.v < n) ∧ (o.kind = 3 ∨ o.kind = 4 → o.w < n) := by
  unfold Kp126.okNode at h
  simp only [Bool.and_eq_true, Bool.or_eq_true, decide_eq_true_eq, Bool.not_eq_true', beq_iff_eq] at h
  obtain ⟨⟨⟨⟨_, h1⟩, h2⟩, _⟩, _⟩ := h
  refine ⟨fun k => ?_, fun k => ?_⟩
  · rcases h1 with h1 | h1
    · exact absurd h1 k
    · exact h1
  · rcases h2 with h2 | h2
    · rw [Bool.or_eq_false_iff] at h2
      simp only [beq_eq_false_iff_ne] at h2
      omega
    · exact h2
theorem right_shape {n z : Nat} {l : List Nat} (h : Kp126.rightRaw n ⟨l, z⟩ = true) : (l.take n).length = n ∧ Kp126.shapeOf (l.take n) = l.take n := by
  unfold Kp126.rightRaw Kp126.right Kp126.shape at h
  simp only [Bool.and_eq_true, beq_iff_eq] at h
  exact h.2
theorem held_get {l : List Nat} {v : Nat} (h : v < l.length) : l[v]? = some (Kp126.held l v) := by
  unfold Kp126.held
  rw [List.getD_eq_getElem?_getD, List.getElem?_eq_getElem h]
  rfl
theorem any_nz : ∀ l : List Nat, l.any (id ∘ fun m => !decide (m = 0)) = !(l.all fun x => x == 0)
  | [] => rfl
  | a :: r => by
    rw [List.any_cons, List.all_cons, any_nz r]
    by_cases h : a = 0
    · subst h
      rfl
    · have h' : (a == 0) = false := by simpa using h
      rw [h', Function.comp, decide_eq_false h]
      rfl
theorem ok_vars {n : Nat} (h : Kp126.okVars n = true) : 1 ≤ n ∧ n ≤ 3 := by
  unfold Kp126.okVars Kp126.VARS at h
  rw [Bool.and_eq_true, decide_eq_true_eq, decide_eq_true_eq] at h
  exact h
end Sh

namespace Sh
open PySem PySem.Spec PyProof.Rows L2
/-! ### 3. Words of this proof -/
/-- a list of whole numbers, as the layer sees it -/
abbrev nv (l : List Nat) : List V := l.map fun n : Nat => V.int (n : Int)
/-- a def that hands back v and leaves what stood -/
def RetV (v : V) (H : Hp) (Q : VK) : Prop := ∀ H', Same H H' → Q v H'
/-- .. that hands back a new list xs -/
def RetL (xs : List V) (H : Hp) (Q : VK) : Prop := ∀ H' p, Same H H' → H p = none → H' p = some (.lst xs) → Q (.ref p) H'
theorem same_new {H H1 : Hp} (s : Same H H1) {p : Addr} {o : HO} (h : H1 p = none) : Same H (upd H1 p o) := fun b o' e => by
  have e1 := s b o' e
  rw [upd_ne (ne_of_none e1 h)]
  exact e1
theorem same_own {H H1 : Hp} (s : Same H H1) {p : Addr} {o : HO} (h : H p = none) : Same H (upd H1 p o) := fun b o' e => by
  rw [upd_ne (ne_of_none e h)]
  exact s b o' e
theorem sl_le {n m : Nat} (h : n ≤ m) (hm : m ≤ 100000 := by decide) : n ≤ sizeLine := by rw [sizeLine_eq]; omega
theorem sl_lt {n m : Nat} (h : n ≤ m) (hm : m ≤ 100000 := by decide) : n < sizeLine := by rw [sizeLine_eq]; omega
theorem nv_len (l : List Nat) : (nv l).length = l.length := List.length_map ..
theorem nv_append (l m : List Nat) : nv (l ++ m) = nv l ++ nv m := List.map_append ..
theorem nv_one (l : List Nat) (n : Nat) : nv (l ++ [n]) = nv l ++ [.int (n : Int)] := nv_append l [n]
theorem zeros (m : Nat) : (List.replicate m [V.int 0]).flatten = nv (List.replicate m 0) := by
  induction m with
  | zero => rfl
  | succ m ih =>
    rw [List.replicate_succ, List.flatten_cons, ih, List.replicate_succ]
    rfl
theorem nv_get {l : List Nat} {i : Nat} {x : V} (h : (nv l)[i]? = some x) : ∃ n, l[i]? = some n ∧ x = .int (n : Int) := by
  rw [List.getElem?_map] at h
  cases e : l[i]? with
  | none => rw [e] at h; cases h
  | some n => rw [e] at h; exact ⟨n, rfl, (Option.some.inj h).symm⟩
theorem nv_flat (l : List Nat) : (nv l).all flatV = true := by
  rw [List.all_eq_true]
  intro x hx
  obtain ⟨n, _, rfl⟩ := List.mem_map.mp hx
  rfl
theorem eqV_nat (a b : Nat) : eqV (.int (a : Int)) (.int (b : Int)) = decide (a = b) := by
  show ((a : Int) == (b : Int)) = _
  by_cases h : a = b
  · subst h
    simp
  · have h' : ¬ (a : Int) = (b : Int) := by omega
    simp [h, h']
theorem inV_nat (n : Nat) (l : List Nat) : inV (.int (n : Int)) (nv l) = decide (n ∈ l) := by
  unfold inV
  rw [List.any_map]
  induction l with
  | nil => rfl
  | cons a r ih =>
    rw [List.any_cons, ih]
    show (eqV (.int (a : Int)) (.int (n : Int)) || _) = _
    rw [eqV_nat]
    by_cases h : a = n
    · subst h
      simp
    · have h' : ¬ n = a := fun e => h e.symm
      simp [h, h']
/-- sorted's list is one of whole numbers from 0 on again -/
theorem perm_nv {ns : List Int} {l : List Nat} (p : ns.Perm (l.map fun n : Nat => (n : Int))) : ∃ l' : List Nat, ns = l'.map (fun n : Nat => (n : Int)) ∧ l'.Perm l := by
  refine ⟨ns.map Int.toNat, ?_, ?_⟩
  · rw [List.map_map]
    have : ∀ x ∈ ns, ((fun n : Nat => (n : Int)) ∘ Int.toNat) x = id x := fun x hx => by
      obtain ⟨n, _, rfl⟩ := List.mem_map.mp (p.mem_iff.mp hx)
      rfl
    rw [List.map_congr_left this, List.map_id]
  · have q := p.map Int.toNat
    rw [List.map_map] at q
    have : ∀ x ∈ l, (Int.toNat ∘ fun n : Nat => (n : Int)) x = id x := fun x _ => rfl
    rw [List.map_congr_left this, List.map_id] at q
    exact q
theorem nv_ints (l : List Nat) : nv l = (l.map fun n : Nat => (n : Int)).map V.int := by rw [List.map_map]; rfl
theorem up_nv {l : List Nat} (h : (l.map fun n : Nat => (n : Int)).Pairwise (· ≤ ·)) : l.Pairwise (· ≤ ·) := by
  rw [List.pairwise_map] at h
  exact h.imp fun h => by omega
theorem cut_to (l : List Nat) (k : Nat) : cutV (nv l) none (some (k : Int)) = nv (l.take k) := by
  unfold cutV
  rw [HT.sIx_none, HT.sIx_nat, nv_len, List.drop_zero, Nat.sub_zero, ← List.map_take]
  refine congrArg nv ?_
  by_cases h : k ≤ l.length
  · rw [Nat.min_eq_left h]
  · rw [Nat.min_eq_right (by omega), List.take_of_length_le (Nat.le_refl _), List.take_of_length_le (by omega)]
theorem cut_from (l : List Nat) (k : Nat) : cutV (nv l) (some (k : Int)) none = nv (l.drop k) := by
  unfold cutV
  rw [HT.sIx_none, HT.sIx_nat, nv_len, ← List.map_drop, ← List.map_take]
  refine congrArg nv ?_
  by_cases h : k ≤ l.length
  · rw [Nat.min_eq_left h, List.take_of_length_le (by rw [List.length_drop]; exact Nat.le_refl _)]
  · rw [Nat.min_eq_right (by omega), List.drop_of_length_le (Nat.le_refl _), List.drop_of_length_le (by omega), List.take_nil]
theorem yes_go {σ : L2.St} {H : Hp} {A B : Hp → Prop} (h : A H) : tYes σ H (fun b H3 => if b = true then A H3 else B H3) := by
  show (if true = true then A H else B H)
  rw [if_pos rfl]
  exact h
/-! ### two lists of whole numbers compared -/
theorem dp_nv {K : PySem.W.Frag} {H : Hp} : ∀ l : List Nat, DpAll K H (nv l) (l.map fun n : Nat => PyData.int (n : Int))
  | [] => .nil
  | n :: r => .cons (.int _) (dp_nv r)
theorem eqv_nv : ∀ l m : List Nat, PyData.eqvAll (l.map fun n : Nat => PyData.int (n : Int)) (m.map fun n : Nat => PyData.int (n : Int)) = decide (l = m)
  | [], [] => by simp [PyData.eqvAll]
  | [], _ :: _ => by simp [PyData.eqvAll]
  | _ :: _, [] => by simp [PyData.eqvAll]
  | a :: r, b :: t => by
    simp only [List.map_cons, PyData.eqvAll, PyData.eqv, eqv_nv r t]
    by_cases h : a = b
    · subst h
      simp
    · have h2 : ¬ (a : Int) = (b : Int) := by omega
      simp [h, h2]
theorem lay_nv : ∀ l : List Nat, PyData.canLayAll0 (l.map fun n : Nat => PyData.int (n : Int)) = true
  | [] => by simp [PyData.canLayAll0]
  | n :: r => by simp [PyData.canLayAll0, PyData.canLay0, lay_nv r]
theorem depth_nv : ∀ l : List Nat, PyData.depthAll (l.map fun n : Nat => PyData.int (n : Int)) ≤ 1
  | [] => by simp [PyData.depthAll]
  | n :: r => by
    have := depth_nv r
    simp [PyData.depthAll, PyData.depth]
    omega
theorem shaped_nv (l : List Nat) : SeqAt.shaped (.list (l.map fun n : Nat => PyData.int (n : Int))) = true := by
  unfold SeqAt.shaped
  have h1 := depth_nv l
  have h2 : (PyData.list (l.map fun n : Nat => PyData.int (n : Int))).depth ≤ 64 := by
    simp only [PyData.depth]
    omega
  have h3 : (PyData.list (l.map fun n : Nat => PyData.int (n : Int))).canLay0 = true := by
    simp only [PyData.canLay0]
    exact lay_nv l
  rw [h3, decide_eq_true h2]
  rfl
/-! ### what is due, as a list of the program -/
def Due (x : Kp126.Ans) (Q : VK) : Prop := ∀ H' p, H' p = some (.lst ((Kp126Neutral.wrKp126_Ans x).map V.int)) → Q (.ref p) H'
theorem Due.num {x : Kp126.Ans} {Q : VK} (k : Due x Q) {v : Int} {H' : Hp} {p : Addr} (e : x = .num v) (h : H' p = some (.lst [.int 0, .int v])) : Q (.ref p) H' := by
  subst e
  exact k H' p h
theorem wr_nats : ∀ l : List Nat, (l.flatMap Kp126Neutral.wrNat).map V.int = nv l
  | [] => rfl
  | n :: r => by
    rw [List.flatMap_cons, List.map_append, wr_nats r]
    rfl
theorem Due.shape {x : Kp126.Ans} {Q : VK} (k : Due x Q) {n : Nat} {s : List Nat} {H' : Hp} {p : Addr} (e : x = .shape n (Kp126.rawOf s))
    (h : H' p = some (.lst ([.int 1, .int (n : Int), .int ((s ++ List.replicate (3 - s.length) 0).length : Nat)] ++ nv (s ++ List.replicate (3 - s.length) 0) ++ [.int 0]))) : Q (.ref p) H' := by
  subst e
  refine k H' p (h.trans ?_)
  rw [← wr_nats]
  show _ = some (HO.lst (List.map V.int ([1] ++ [(n : Int)] ++ ((((s ++ List.replicate (3 - s.length) 0).length : Nat) : Int) :: (s ++ List.replicate (3 - s.length) 0).flatMap Kp126Neutral.wrNat ++ [((0 : Nat) : Int)]))))
  simp only [List.map_append, List.map_cons, List.map_nil, List.cons_append, List.nil_append, List.append_assoc]
  rfl
theorem dw_due {K : PySem.W.Frag} {Q : VK} (r : List Int) (h : ∀ H' v, Dw K H' v (.list (r.map PySem.W.WData.int)) → Q v H') : ∀ H' p, H' p = some (.lst (r.map V.int)) → Q (.ref p) H' := fun H' p hp => h H' _ (.lst (SqL.of hp) (dw_ints r))
/-- a list of whole numbers from 0 on that is handed in -/
theorem nats_nv {l : List Int} (h : ∀ z ∈ l, 0 ≤ z) : l.map V.int = nv (Kp126Neutral.nats l) := by
  unfold nv Kp126Neutral.nats
  rw [List.map_map]
  refine List.map_congr_left fun z hz => ?_
  show V.int z = V.int ((z.toNat : Nat) : Int)
  rw [Int.toNat_of_nonneg (h z hz)]
/-! ### the step, an object of six whole numbers -/
def stF (o : Kp126.Node) (ch : Nat) : List (Str × V) := [("kind", .int (o.kind : Nat)), ("v", .int (o.v : Nat)), ("w", .int (o.w : Nat)), ("c", .int (o.c : Nat)), ("none", .int (o.none_ : Nat)), ("choice", .int (ch : Nat))]
structure StepTxt (K : PySem.W.Frag) (C : Addr) : Prop where
  cl : Cls K C
  nK : NoAttr K C "kind"
  nV : NoAttr K C "v"
  nW : NoAttr K C "w"
  nC : NoAttr K C "c"
  nN : NoAttr K C "none"
  nH : NoAttr K C "choice"
theorem lk_here {k : Str} {v : V} {r : List (Str × V)} : List.lookup k ((k, v) :: r) = some v := by
  have e : (k == k) = true := beq_self_eq_true k
  simp only [List.lookup, e]
theorem lk_past {k g : Str} {v : V} {r : List (Str × V)} (h : (k == g) = false) : List.lookup k ((g, v) :: r) = List.lookup k r := by
  simp only [List.lookup, h]
theorem put_past {f g : Str} {v x : V} {r : List (Str × V)} (h : ¬ g = f) : putF f v ((g, x) :: r) = (g, x) :: putF f v r := if_neg h
theorem lk_kind (o : Kp126.Node) (ch : Nat) : (stF o ch).lookup ("kind" : Str) = some (.int (o.kind : Nat)) := lk_here
theorem lk_v (o : Kp126.Node) (ch : Nat) : (stF o ch).lookup ("v" : Str) = some (.int (o.v : Nat)) := (lk_past (by decide +kernel)).trans lk_here
theorem lk_w (o : Kp126.Node) (ch : Nat) : (stF o ch).lookup ("w" : Str) = some (.int (o.w : Nat)) := (lk_past (by decide +kernel)).trans ((lk_past (by decide +kernel)).trans lk_here)
theorem lk_c (o : Kp126.Node) (ch : Nat) : (stF o ch).lookup ("c" : Str) = some (.int (o.c : Nat)) := (lk_past (by decide +kernel)).trans ((lk_past (by decide +kernel)).trans ((lk_past (by decide +kernel)).trans lk_here))
theorem lk_none (o : Kp126.Node) (ch : Nat) : (stF o ch).lookup ("none" : Str) = some (.int (o.none_ : Nat)) := (lk_past (by decide +kernel)).trans ((lk_past (by decide +kernel)).trans ((lk_past (by decide +kernel)).trans ((lk_past (by decide +kernel)).trans lk_here)))
theorem lk_choice (o : Kp126.Node) (ch : Nat) : (stF o ch).lookup ("choice" : Str) = some (.int (ch : Nat)) :=
  (lk_past (by decide +kernel)).trans ((lk_past (by decide +kernel)).trans ((lk_past (by decide +kernel)).trans ((lk_past (by decide +kernel)).trans ((lk_past (by decide +kernel)).trans lk_here))))
section
variable {a b c d e x : V}
theorem put_v : putF "v" x (putF "kind" a []) = [(("kind" : Str), a), (("v" : Str), x)] := put_past (by decide +kernel)
theorem put_w : putF "w" x ([(("kind" : Str), a), (("v" : Str), b)]) = [(("kind" : Str), a), (("v" : Str), b), (("w" : Str), x)] := (put_past (by decide +kernel)).trans (congrArg _ (put_past (by decide +kernel)))
theorem put_c : putF "c" x ([(("kind" : Str), a), (("v" : Str), b), (("w" : Str), c)]) = [(("kind" : Str), a), (("v" : Str), b), (("w" : Str), c), (("c" : Str), x)] := (put_past (by decide +kernel)).trans (congrArg _ ((put_past (by decide +kernel)).trans (congrArg _ (put_past (by decide +kernel)))))
theorem put_none : putF "none" x ([(("kind" : Str), a), (("v" : Str), b), (("w" : Str), c), (("c" : Str), d)]) = [(("kind" : Str), a), (("v" : Str), b), (("w" : Str), c), (("c" : Str), d), (("none" : Str), x)] := (put_past (by decide +kernel)).trans (congrArg _ ((put_past (by decide +kernel)).trans (congrArg _ ((put_past (by decide +kernel)).trans (congrArg _ (put_past (by decide +kernel)))))))
theorem put_choice : putF "choice" x ([(("kind" : Str), a), (("v" : Str), b), (("w" : Str), c), (("c" : Str), d), (("none" : Str), e)]) = [(("kind" : Str), a), (("v" : Str), b), (("w" : Str), c), (("c" : Str), d), (("none" : Str), e), (("choice" : Str), x)] := (put_past (by decide +kernel)).trans (congrArg _ ((put_past (by decide +kernel)).trans (congrArg _ ((put_past (by decide +kernel)).trans (congrArg _ ((put_past (by decide +kernel)).trans (congrArg _ (put_past (by decide +kernel)))))))))
end
theorem int_eq_nat (n m : Nat) : decide (V.int (n : Int) = V.int (m : Int)) = (n == m) := by
  by_cases h : n = m
  · subst h
    simp
  · have h1 : ¬ V.int (n : Int) = V.int (m : Int) := fun e => h (by injection e with e; omega)
    have h2 : (n == m) = false := by simpa using h
    rw [decide_eq_false h1, h2]
theorem lt_nat (n m : Nat) : decide ((n : Int) < (m : Int)) = decide (n < m) := decide_eq_decide.mpr (by omega)
theorem le_nat (n m : Nat) : decide ((n : Int) ≤ (m : Int)) = decide (n ≤ m) := decide_eq_decide.mpr (by omega)
theorem in_34 (n : Nat) : inV (V.int (n : Int)) [.int 3, .int 4] = (n == 3 || n == 4) := by
  have e := inV_nat n [3, 4]
  rw [show inV (V.int (n : Int)) [.int 3, .int 4] = decide (n ∈ [3, 4]) from e]
  by_cases h3 : n = 3
  · subst h3
    rfl
  by_cases h4 : n = 4
  · subst h4
    rfl
  have e3 : (n == 3) = false := by simpa using h3
  have e4 : (n == 4) = false := by simpa using h4
  rw [e3, e4]
  exact decide_eq_false (by simp [h3, h4])
section
/-- what a module's name holds: a whole number | a def that keeps its promise -/
def IntC (mg : Str → Option Value) (x : Str) (n : Int) : Prop := ∃ t, mg x = some (.int n t)
structure Callee (P : Program) (w : World) (K : PySem.W.Frag) (mg : Str → Option Value) (base : Heap) (x : Str) (k : Nat) (ps : List Str) (sp : Sp) : Prop where
  ex : ∃ (f : Addr) (fd : FuncData), FnOk P w K mg base CX0 k f fd ps sp ∧ mg x = some (.ref f) ∧ PySem.W.keepIn K (.ref f) = true ∧ Binds K fd ps []
structure Maker (P : Program) (w : World) (K : PySem.W.Frag) (mg : Str → Option Value) (base : Heap) (C : Addr) (k : Nat) (ps : List Str) (sp : Sp) : Prop where
  ex : ∃ (f : Addr) (fd : FuncData), Mk K C f ∧ FnOk P w K mg base CX0 k f fd ps sp ∧ Binds K fd ps []
variable {X : Cx}
theorem pe_new {x : Str} {C : Addr} {k : Nat} {ps : List Str} {sp : Sp} {p pos : Pos} {e : Expr} {es : List Expr} {t : TA} (c : Maker X.prog X.w X.K X.mg X.base C k ps sp) (hr : Room (k + 1) X.A) (hm : X.mg x = some (.ref C)) (ha : PA X (e :: es) t)
    (hg : Gl X x := by rfl) (hdb : (x == ("__debug__" : Str)) = false := by decide) (he : starEach (e :: es) X.env = (false, eval e X.env) :: starEach es X.env := by rfl) (hpl : (backTo pos (starEach es X.env)).any (·.1) = false := by rfl) :
    PE X (.Call (.Name x p) (e :: es) [] pos) (tMake C sp [] E0 t) := by
  obtain ⟨f, fd, M, F, hb⟩ := c.ex
  exact pe_make M F hr hg hm hb .nil pass0 ha hdb he hpl
theorem pe_const {x : Str} {n : Int} {pos : Pos} (h : IntC X.mg x n) (hg : Gl X x := by rfl) (hd : (x == ("__debug__" : Str)) = false := by decide) : PE X (.Name x pos) (tC (.int n)) := by
  obtain ⟨t, h⟩ := h
  exact pe_glob hg h ⟨t, rfl⟩ hd
theorem pe_go {x : Str} {k : Nat} {ps : List Str} {sp : Sp} {p pos : Pos} {e : Expr} {es : List Expr} {t : TA} (c : Callee X.prog X.w X.K X.mg X.base x k ps sp) (hr : Room k X.A) (ha : PA X (e :: es) t)
    (hg : Gl X x := by rfl) (hdb : (x == ("__debug__" : Str)) = false := by decide) (he : starEach (e :: es) X.env = (false, eval e X.env) :: starEach es X.env := by rfl) (hpl : (backTo pos (starEach es X.env)).any (·.1) = false := by rfl) :
    PE X (.Call (.Name x p) (e :: es) [] pos) (tCall sp [] E0 t) := by
  obtain ⟨f, fd, F, hm, hk, hb⟩ := c.ex
  exact pe_call F hr hg hm hk hb .nil pass0 ha hdb he hpl
theorem pe_go0 {x : Str} {k : Nat} {ps : List Str} {sp : Sp} {p pos : Pos} (c : Callee X.prog X.w X.K X.mg X.base x k ps sp) (hr : Room k X.A)
    (hg : Gl X x := by rfl) (hdb : (x == ("__debug__" : Str)) = false := by decide) :
    PE X (.Call (.Name x p) [] [] pos) (tCall sp [] E0 tNil) := by
  obtain ⟨f, fd, F, hm, hk, hb⟩ := c.ex
  exact pe_call0 F hr hg hm hk hb .nil pass0 hdb
end
end Sh

namespace Sh
open PySem PySem.Spec PyProof.Rows L2
def top (i : Nat) : Stmt := PySem.Challenge.pw_shapestep_s04_ts_step.main.body.getD i (.Pass ⟨0, 0, 0, 0⟩)
abbrev sNumberAlone : Stmt := top 3
abbrev sRefused : Stmt := top 4
abbrev sWithShape : Stmt := top 5
abbrev sFilled : Stmt := top 6
abbrev sIsGreat : Stmt := top 10
abbrev sGreatOnes : Stmt := top 11
abbrev sHowManyLess : Stmt := top 12
abbrev sToldAs : Stmt := top 13
abbrev sShapeOf : Stmt := top 14
abbrev sIsMany : Stmt := top 15
abbrev sIsRight : Stmt := top 16
abbrev sOthersThan : Stmt := top 20
abbrev sHowManyPlaces : Stmt := top 21
abbrev sSpread : Stmt := top 22
abbrev sWithPlace : Stmt := top 23
abbrev sInit : Stmt := inClass (top 35) 0
abbrev sAreVariables : Stmt := top 36
abbrev sIsNumber : Stmt := top 37
abbrev sIsChoice : Stmt := top 38
abbrev sIsAsTold : Stmt := top 39
abbrev sWithNumber : Stmt := top 40
abbrev sBehind : Stmt := top 41
abbrev sShapeBehind : Stmt := top 42
abbrev sIsSo : Stmt := top 43
abbrev sAnswerOf : Stmt := top 44
abbrev sTsStep : Stmt := top 46
section
variable {P : Program} {w : World} {K : PySem.W.Frag} {mg : Str → Option Value} {base : Heap} {C : Addr}
/-! #### number_alone -/
def spNumberAlone : Sp := fun vs H Q _ => ∃ n : Int, vs = [.int n] ∧ RetL [.int 0, .int n] H Q
theorem scNumberAlone : FnScope ["number"] ["number"] (defScope sNumberAlone) := ⟨rfl, rfl, rfl, by decide +kernel, rfl, by decide +kernel, by decide +kernel⟩
theorem okNumberAlone {f : Addr} {fd : FuncData} (F : Fun K "number_alone" "number_alone" sNumberAlone f fd) : FnOk P w K mg base CX0 1 f fd ["number"] (spNumberAlone) := by
  refine F.ok scNumberAlone (fun vs H Q E h => ?_) (fun cdv A outer s H vs Q E hr h => ?_)
  · obtain ⟨n, rfl, k⟩ := h
    rfl
  · obtain ⟨n, rfl, k⟩ := h
    refine ⟨_, (pss_one (ps_ret (pe_lst (pa_cons pe_int (pa_cons (pv 0) pa_nil))))), ?_⟩
    refine ⟨_, rfl, sl_le (m := 2) (Nat.le_refl _), fun p hp => ?_⟩
    exact k _ p (same_new (Same.refl H) hp) hp upd_same
/-! #### refused -/
def spRefused : Sp := fun vs H Q _ => vs = [] ∧ RetL [.int 0, .int (-22)] H Q
theorem scRefused : FnScope [] [] (defScope sRefused) := ⟨rfl, rfl, rfl, by decide +kernel, rfl, by decide +kernel, by decide +kernel⟩
theorem okRefused {f : Addr} {fd : FuncData} (F : Fun K "refused" "refused" sRefused f fd) (g_NOT_SO : IntC mg "NOT_SO" (-22)) (c_number_alone : Callee P w K mg base "number_alone" 1 ["number"] (spNumberAlone)) : FnOk P w K mg base CX0 2 f fd [] (spRefused) := by
  refine F.ok scRefused (fun vs H Q E h => ?_) (fun cdv A outer s H vs Q E hr h => ?_)
  · obtain ⟨rfl, k⟩ := h
    rfl
  · obtain ⟨rfl, k⟩ := h
    refine ⟨_, (pss_one (ps_ret (pe_go c_number_alone (hr.mono (by decide)) (pa_cons (pe_const g_NOT_SO) pa_nil)))), ?_⟩
    exact ⟨-22, rfl, k⟩
/-! #### with_shape -/
def spWithShape (K : PySem.W.Frag) : Sp := fun vs H Q _ => ∃ (a : Addr) (n : Int) (l : List Nat), vs = [.int n, .ref a] ∧ SqL K H a (nv l) ∧ l.length ≤ 100 ∧ RetL ([.int 1, .int n, .int l.length] ++ nv l ++ [.int 0]) H Q
theorem scWithShape : FnScope ["number", "at"] ["number", "at"] (defScope sWithShape) := ⟨rfl, rfl, rfl, by decide +kernel, rfl, by decide +kernel, by decide +kernel⟩
theorem okWithShape {f : Addr} {fd : FuncData} (F : Fun K "with_shape" "with_shape" sWithShape f fd) (n_len : mg "len" = none) (n_list : mg "list" = none) : FnOk P w K mg base CX0 1 f fd ["number", "at"] (spWithShape K) := by
  refine F.ok scWithShape (fun vs H Q E h => ?_) (fun cdv A outer s H vs Q E hr h => ?_)
  · obtain ⟨a, n, l, rfl, hs, hl, k⟩ := h
    rfl
  · obtain ⟨a, n, l, rfl, hs, hl, k⟩ := h
    refine ⟨_, (pss_one (ps_ret (pe_op op_cat (pe_op op_cat (pe_lst (pa_cons pe_int (pa_cons (pv 0) (pa_cons (pe_callB call_len rfl n_len boot_len (pa_cons (pv 1) pa_nil)) pa_nil)))) (pe_callTy call_list_of rfl n_list Pv.boot_list (pa_cons (pv 1) pa_nil))) (pe_lst (pa_cons pe_int pa_nil))))), ?_⟩
    refine ⟨_, rfl, _, rfl, _, _, rfl, .inl ⟨_, hs, rfl⟩, sl_le (m := 3) (Nat.le_refl _), fun p hp => ?_⟩
    have s1 := same_new (o := .lst [.int 1, .int n, .int (nv l).length]) (Same.refl H) hp
    refine ⟨_, rfl, a, nv l, rfl, .inl (s1.seq hs), fun q hq => ?_⟩
    have e1 : upd (upd H p (.lst [.int 1, .int n, .int (nv l).length])) q (.lst (nv l)) p = some (.lst [.int 1, .int n, .int (nv l).length]) := (upd_ne (ne_of_none upd_same hq)).trans upd_same
    have s2 := same_new (o := .lst (nv l)) s1 hq
    refine ⟨p, q, _, _, rfl, rfl, e1, upd_same, sl_le (m := 103) (by show 3 + (nv l).length ≤ 103; rw [nv_len]; omega), fun r hr2 => ?_⟩
    have s3 := same_new (o := .lst ([.int 1, .int n, .int (nv l).length] ++ nv l)) s2 hr2
    refine ⟨sl_le (m := 1) (Nat.le_refl _), fun t ht => ?_⟩
    have s4 := same_new (o := .lst [.int 0]) s3 ht
    refine ⟨r, t, _, _, rfl, rfl, (upd_ne (ne_of_none upd_same ht)).trans upd_same, upd_same, sl_le (m := 104) (by rw [List.length_append, nv_len]; show 3 + l.length + 1 ≤ 104; omega), fun u hu => ?_⟩
    have s5 := same_new (o := .lst ([.int 1, .int n, .int (nv l).length] ++ nv l ++ [.int 0])) s4 hu
    refine k _ u s5 (s4.free hu) ?_
    rw [nv_len]
    exact upd_same
/-! #### filled -/
def spFilled (K : PySem.W.Frag) : Sp := fun vs H Q _ => ∃ (a : Addr) (l : List Nat), vs = [.ref a] ∧ SqL K H a (nv l) ∧ l.length ≤ 3 ∧ RetL (nv (l ++ List.replicate (3 - l.length) 0)) H Q
theorem scFilled : FnScope ["held"] ["held"] (defScope sFilled) := ⟨rfl, rfl, rfl, by decide +kernel, rfl, by decide +kernel, by decide +kernel⟩
theorem okFilled {f : Addr} {fd : FuncData} (F : Fun K "filled" "filled" sFilled f fd) (g_MANY_AT : IntC mg "MANY_AT" (3)) (n_len : mg "len" = none) (n_list : mg "list" = none) : FnOk P w K mg base CX0 1 f fd ["held"] (spFilled K) := by
  refine F.ok scFilled (fun vs H Q E h => ?_) (fun cdv A outer s H vs Q E hr h => ?_)
  · obtain ⟨a, l, rfl, hs, hl, k⟩ := h
    rfl
  · obtain ⟨a, l, rfl, hs, hl, k⟩ := h
    refine ⟨_, (pss_one (ps_ret (pe_op op_cat (pe_callTy call_list_of rfl n_list Pv.boot_list (pa_cons (pv 0) pa_nil)) (pe_op op_rep (pe_lst (pa_cons pe_int pa_nil)) (pe_op op_sub (pe_const g_MANY_AT) (pe_callB call_len rfl n_len boot_len (pa_cons (pv 0) pa_nil))))))), ?_⟩
    refine ⟨_, rfl, a, nv l, rfl, .inl hs, fun p hp => ?_⟩
    have s1 := same_new (o := .lst (nv l)) (Same.refl H) hp
    refine ⟨sl_le (m := 1) (Nat.le_refl _), fun q hq => ?_⟩
    have s2 := same_new (o := .lst [.int 0]) s1 hq
    refine ⟨_, rfl, _, _, rfl, .inl ⟨_, s2.seq hs, rfl⟩, _, _, rfl, rfl, ?_⟩
    rw [nv_len]
    refine ⟨q, _, _, rfl, rfl, upd_same, by omega, by omega, sl_le (m := 3) (by show 1 * _ ≤ 3; omega), fun r hr2 => ?_⟩
    have e : (List.replicate (3 - (l.length : Int)).toNat [V.int 0]).flatten = nv (List.replicate (3 - l.length) 0) := by
      rw [show (3 - (l.length : Int)).toNat = 3 - l.length by omega, zeros]
    rw [e]
    have s3 := same_new (o := .lst (nv (List.replicate (3 - l.length) 0))) s2 hr2
    refine ⟨p, r, nv l, nv (List.replicate (3 - l.length) 0), rfl, rfl, ?_, upd_same, sl_le (m := 3) (by rw [nv_len, nv_len, List.length_replicate]; omega), fun t ht => ?_⟩
    · rw [upd_ne (ne_of_none ((upd_ne (ne_of_none upd_same hq)).trans upd_same) hr2), upd_ne (ne_of_none upd_same hq)]
      exact upd_same
    refine k _ t (same_new s3 ht) (s3.free ht) ?_
    rw [nv_append]
    exact upd_same
/-! #### is_great -/
def spIsGreat : Sp := fun vs H Q _ => ∃ n : Nat, vs = [.int (n : Int)] ∧ RetV (.bl (decide (3 < n))) H Q
theorem scIsGreat : FnScope ["number"] ["number"] (defScope sIsGreat) := ⟨rfl, rfl, rfl, by decide +kernel, rfl, by decide +kernel, by decide +kernel⟩
theorem okIsGreat {f : Addr} {fd : FuncData} (F : Fun K "is_great" "is_great" sIsGreat f fd) (g_SMALLEST_GREAT : IntC mg "SMALLEST_GREAT" (4)) : FnOk P w K mg base CX0 1 f fd ["number"] (spIsGreat) := by
  refine F.ok scIsGreat (fun vs H Q E h => ?_) (fun cdv A outer s H vs Q E hr h => ?_)
  · obtain ⟨n, rfl, k⟩ := h
    rfl
  · obtain ⟨n, rfl, k⟩ := h
    refine ⟨_, (pss_one (ps_ret (pe_cmpR op_ge (pv 0) (pe_const g_SMALLEST_GREAT) (nomark _)))), ?_⟩
    refine ⟨_, rfl, _, _, rfl, rfl, ?_⟩
    have q := k H (Same.refl H)
    rw [show decide (3 < n) = decide ((4 : Int) ≤ (n : Int)) from decide_eq_decide.mpr (by omega)] at q
    exact q
/-! #### great_ones -/
def spGreatOnes (K : PySem.W.Frag) : Sp := fun vs H Q _ => ∃ (a : Addr) (l : List Nat), vs = [.ref a] ∧ SqL K H a (nv l) ∧ l.length ≤ 8 ∧ ∀ g, IsGreat l g → RetL (nv g) H Q
theorem scGreatOnes : FnScope ["numbers", "found", "number"] ["numbers"] (defScope sGreatOnes) := ⟨rfl, rfl, rfl, by decide +kernel, rfl, by decide +kernel, by decide +kernel⟩
theorem okGreatOnes {f : Addr} {fd : FuncData} (F : Fun K "great_ones" "great_ones" sGreatOnes f fd) (n_sorted : mg "sorted" = none) (c_is_great : Callee P w K mg base "is_great" 1 ["number"] (spIsGreat)) : FnOk P w K mg base CX0 2 f fd ["numbers"] (spGreatOnes K) := by
  refine F.ok scGreatOnes (fun vs H Q E h => ?_) (fun cdv A outer s H vs Q E hr h => ?_)
  · obtain ⟨a, l, rfl, hs, hl, k⟩ := h
    rfl
  · obtain ⟨a, l, rfl, hs, hl, k⟩ := h
    refine ⟨_, (pss_cons (ps_set (i := 1) scGreatOnes.nd rfl (Or.inl rfl) (pe_lst pa_nil)) (pss_cons (ps_for PassesOwn.never rfl (pi_list (pe_callB cr_sorted rfl n_sorted boot_sorted (pa_cons (pv 0) pa_nil))) (pg_name (i := 2) scGreatOnes.nd rfl (Or.inl rfl)) (pss_one (ps_if (PW.pt (pw_and (pt_val (pe_go c_is_great (hr.mono (by decide)) (pa_cons (pv 2) pa_nil))) (pw_and1 (pt_cmpR op_notIn_seq (pv 2) (pv 1) (by rfl))))) (pss_one (ps_expr (pe_bm PySem.F.plainAttrs_list PySem.F.slot_list_append PySem.F.type_list_append mt_append (pv 1) (pa_cons (pv 2) pa_nil)))) pss_nil))) (pss_one (ps_ret (pv 1))))), ?_⟩
    refine ⟨sl_le (m := 0) (Nat.le_refl _), fun f hf => ?_⟩
    have s1 := same_new (o := .lst []) (Same.refl H) hf
    refine ⟨_, rfl, a, l.map fun n : Nat => (n : Int), rfl, by rw [← nv_ints]; exact s1.seq hs, by rw [List.length_map]; omega, fun ns p perm up hp => ?_⟩
    obtain ⟨l', rfl, perm'⟩ := perm_nv perm
    have up' := up_nv up
    rw [← nv_ints]
    have s2 := same_new (o := .lst (nv l')) s1 hp
    have f2 : upd (upd H f (.lst [])) p (.lst (nv l')) f = some (.lst []) := (upd_ne (ne_of_none upd_same hp)).trans upd_same
    have fp : f ≠ p := ne_of_none (H := upd H f (.lst [])) upd_same hp
    refine ⟨p, rfl, ⟨_, SqL.of upd_same⟩, for_list (K := K) (a := p) (xs := nv l') (fun i σ H' => ∃ (v : Option V) (g : List Nat), σ = [some (.ref a), some (.ref f), v] ∧ Same H H' ∧ H' p = some (.lst (nv l')) ∧ H' f = some (.lst (nv g)) ∧ IsGreat (l'.take i) g)
      ⟨none, [], rfl, s2, upd_same, f2, by rw [List.take_zero]; exact IsGreat.nil⟩ (fun i σ H' _ ⟨_, _, _, _, hp', _, _⟩ => SqL.of hp') ?_ ?_⟩
    · rintro i y σ H' hi ⟨v, g, rfl, s3, hp3, hf3, ig⟩
      obtain ⟨n, hn, rfl⟩ := nv_get hi
      have tk := take_more hn
      refine ⟨_, rfl, n, rfl, fun H4 s4 => ⟨_, rfl, ?_⟩⟩
      by_cases c : 3 < n
      · rw [decide_eq_true c]
        refine iteT ⟨_, rfl, _, rfl, f, nv g, rfl, .inl (SqL.of (s4 _ _ hf3)), rfl, nv_flat g, _, rfl, ?_⟩
        show (if (!inV (V.int (n : Int)) (nv g)) = true then _ else _)
        rw [inV_nat]
        by_cases c2 : n ∈ g
        · rw [decide_eq_true c2]
          refine iteF ⟨_, g, rfl, s3.trans s4, s4 _ _ hp3, s4 _ _ hf3, ?_⟩
          rw [tk]
          exact great_skip ig (.inr c2)
        · rw [decide_eq_false c2]
          refine iteT ⟨_, rfl, .inl ⟨rfl, _, SqL.of (s4 _ _ hf3)⟩, _, rfl, f, nv g, _, rfl, rfl, s4 _ _ hf3, ?_, ?_⟩
          · rw [nv_len]
            have := ig.few
            rw [List.length_take] at this
            have := perm'.length_eq
            exact sl_lt (m := 8) (by omega)
          · refine ⟨_, g ++ [n], rfl, same_own (s3.trans s4) hf, (upd_ne (Ne.symm fp)).trans (s4 _ _ hp3), ?_, ?_⟩
            · rw [nv_one]
              exact upd_same
            · rw [tk]
              exact great_add ig c c2 (up_take up' hn)
      · rw [decide_eq_false c]
        refine iteF (iteF ⟨_, g, rfl, s3.trans s4, s4 _ _ hp3, s4 _ _ hf3, ?_⟩)
        rw [tk]
        exact great_skip ig (.inl c)
    · rintro σ H' ⟨v, g, rfl, s3, hp3, hf3, ig⟩
      rw [nv_len, List.take_length] at ig
      exact ⟨_, rfl, k g (ig.of_perm perm') H' f s3 hf hf3⟩
/-! #### how_many_less -/
def spHowManyLess (K : PySem.W.Frag) : Sp := fun vs H Q _ => ∃ (a : Addr) (l : List Nat) (b : Nat), vs = [.ref a, .int (b : Int)] ∧ SqL K H a (nv l) ∧ l.length ≤ 100 ∧ RetV (.int ((l.filter fun m => decide (m < b)).length : Nat)) H Q
theorem scHowManyLess : FnScope ["numbers", "bound", "number"] ["numbers", "bound"] (defScope sHowManyLess) := ⟨rfl, rfl, rfl, by decide +kernel, rfl, by decide +kernel, by decide +kernel⟩
theorem okHowManyLess {f : Addr} {fd : FuncData} (F : Fun K "how_many_less" "how_many_less" sHowManyLess f fd) (n_len : mg "len" = none) : FnOk P w K mg base CX0 1 f fd ["numbers", "bound"] (spHowManyLess K) := by
  refine F.ok scHowManyLess (fun vs H Q E h => ?_) (fun cdv A outer s H vs Q E hr h => ?_)
  · obtain ⟨a, l, b, rfl, hs, hl, k⟩ := h
    rfl
  · obtain ⟨a, l, b, rfl, hs, hl, k⟩ := h
    refine ⟨_, (pss_one (ps_ret (pe_callB call_len rfl n_len boot_len (pa_cons (pe_lc (own := [("number", 2)]) rfl scHowManyLess.nd (pi_list (pv 0)) (blkOk_by (own := [("number", 2)]) (N := ["numbers", "bound", "number"]) (sc := defScope sHowManyLess) (by decide +kernel)) (fun _ _ _ _ _ => pg_name (i := 2) scHowManyLess.nd rfl (Or.inl rfl)) (fun _ _ _ _ _ => pts_one (pt_cmpR op_lt (pv 2) (pv 1) (nomark _))) (fun _ _ _ _ _ => pv 2)) pa_nil)))), ?_⟩
    refine ⟨_, rfl, a, rfl, ⟨_, hs⟩, fun D hD => lc_list (K := K) (a := a) (xs := nv l) (fun i H' => Same H H' ∧ H' D = some (.lst (nv ((l.take i).filter fun m => decide (m < b))))) ⟨same_new (Same.refl H) hD, upd_same⟩ (fun i H' _ h => h.1.seq hs) ?_ ?_⟩
    · rintro i y H' hi ⟨s1, hD1⟩
      obtain ⟨n, hn, rfl⟩ := nv_get hi
      have tk := take_more hn
      refine ⟨rfl, _, rfl, _, rfl, _, _, rfl, rfl, _, rfl, ?_⟩
      by_cases c : n < b
      · rw [decide_eq_true (show (n : Int) < (b : Int) by omega)]
        refine iteT ⟨_, rfl, _, hD1, ?_, same_own s1 hD, ?_⟩
        · rw [nv_len]
          have := List.length_filter_le (fun m => decide (m < b)) (l.take i)
          rw [List.length_take] at this
          exact sl_lt (m := 100) (by omega)
        · rw [tk, List.filter_append, List.filter_cons_of_pos (by simpa using c), List.filter_nil, nv_one]
          exact upd_same
      · rw [decide_eq_false (show ¬ (n : Int) < (b : Int) by omega)]
        refine iteF ⟨s1, ?_⟩
        rw [tk, List.filter_append, List.filter_cons_of_neg (by simpa using c), List.filter_nil, List.append_nil]
        exact hD1
    · rintro H' ⟨s1, hD1⟩
      rw [nv_len, List.take_length] at hD1
      refine ⟨_, _, rfl, .inl ⟨_, SqL.of hD1, rfl⟩, ?_⟩
      rw [nv_len]
      exact k H' s1
/-! #### told_as -/
def spToldAs (K : PySem.W.Frag) : Sp := fun vs H Q _ => ∃ (a : Addr) (n : Nat) (g : List Nat), vs = [.int (n : Int), .ref a] ∧ SqL K H a (nv g) ∧ g.length ≤ 100 ∧ RetV (.int (told g n : Nat)) H Q
theorem scToldAs : FnScope ["number", "great"] ["number", "great"] (defScope sToldAs) := ⟨rfl, rfl, rfl, by decide +kernel, rfl, by decide +kernel, by decide +kernel⟩
theorem okToldAs {f : Addr} {fd : FuncData} (F : Fun K "told_as" "told_as" sToldAs f fd) (g_SMALLEST_GREAT : IntC mg "SMALLEST_GREAT" (4)) (c_is_great : Callee P w K mg base "is_great" 1 ["number"] (spIsGreat)) (c_how_many_less : Callee P w K mg base "how_many_less" 1 ["numbers", "bound"] (spHowManyLess K)) : FnOk P w K mg base CX0 2 f fd ["number", "great"] (spToldAs K) := by
  refine F.ok scToldAs (fun vs H Q E h => ?_) (fun cdv A outer s H vs Q E hr h => ?_)
  · obtain ⟨a, n, g, rfl, hs, hl, k⟩ := h
    rfl
  · obtain ⟨a, n, g, rfl, hs, hl, k⟩ := h
    refine ⟨_, (pss_cons (ps_if (pt_val (pe_go c_is_great (hr.mono (by decide)) (pa_cons (pv 0) pa_nil))) (pss_one (ps_ret (pe_op op_add (pe_const g_SMALLEST_GREAT) (pe_go c_how_many_less (hr.mono (by decide)) (pa_cons (pv 1) (pa_cons (pv 0) pa_nil)))))) pss_nil) (pss_one (ps_ret (pv 0)))), ?_⟩
    refine ⟨_, rfl, n, rfl, fun H1 s1 => ⟨_, rfl, ?_⟩⟩
    by_cases c : 3 < n
    · rw [decide_eq_true c]
      refine iteT ⟨_, rfl, _, rfl, a, g, n, rfl, s1.seq hs, hl, fun H2 s2 => ⟨_, _, rfl, rfl, ?_⟩⟩
      have q := k H2 (s1.trans s2)
      rw [show told g n = 4 + (g.filter fun m => decide (m < n)).length from if_pos c] at q
      exact q
    · rw [decide_eq_false c]
      refine iteF ⟨_, rfl, ?_⟩
      have q := k H1 s1
      rw [show told g n = n from if_neg c] at q
      exact q
/-! #### shape_of -/
def spShapeOf (K : PySem.W.Frag) : Sp := fun vs H Q _ => ∃ (a : Addr) (l : List Nat), vs = [.ref a] ∧ SqL K H a (nv l) ∧ l.length ≤ 8 ∧ RetL (nv (Kp126.shapeOf l)) H Q
theorem scShapeOf : FnScope ["numbers", "great", "number"] ["numbers"] (defScope sShapeOf) := ⟨rfl, rfl, rfl, by decide +kernel, rfl, by decide +kernel, by decide +kernel⟩
theorem okShapeOf {f : Addr} {fd : FuncData} (F : Fun K "shape_of" "shape_of" sShapeOf f fd) (c_great_ones : Callee P w K mg base "great_ones" 2 ["numbers"] (spGreatOnes K)) (c_told_as : Callee P w K mg base "told_as" 2 ["number", "great"] (spToldAs K)) : FnOk P w K mg base CX0 3 f fd ["numbers"] (spShapeOf K) := by
  refine F.ok scShapeOf (fun vs H Q E h => ?_) (fun cdv A outer s H vs Q E hr h => ?_)
  · obtain ⟨a, l, rfl, hs, hl, k⟩ := h
    rfl
  · obtain ⟨a, l, rfl, hs, hl, k⟩ := h
    refine ⟨_, (pss_cons (ps_set (i := 1) scShapeOf.nd rfl (Or.inr rfl) (pe_go c_great_ones (hr.mono (by decide)) (pa_cons (pv 0) pa_nil))) (pss_one (ps_ret (pe_lc (own := [("number", 2)]) rfl scShapeOf.nd (pi_list (pv 0)) (blkOk_by (own := [("number", 2)]) (N := ["numbers", "great", "number"]) (sc := defScope sShapeOf) (by decide +kernel)) (fun _ _ _ _ _ => pg_name (i := 2) scShapeOf.nd rfl (Or.inl rfl)) (fun _ _ _ _ _ => pts_nil) (fun _ _ _ _ _ => (pe_go c_told_as (hr.mono (by decide)) (pa_cons (pv 2) (pa_cons (pv 1) pa_nil)))))))), ?_⟩
    refine ⟨_, rfl, a, l, rfl, hs, hl, fun g ig H1 q s1 nq hq => ?_⟩
    refine ⟨_, rfl, a, rfl, ⟨_, s1.seq hs⟩, fun D hD => lc_list (K := K) (a := a) (xs := nv l) (fun i H' => Same H1 H' ∧ H' D = some (.lst (nv ((l.take i).map (told g))))) ⟨same_new (Same.refl H1) hD, upd_same⟩ (fun i H' _ h => h.1.seq (s1.seq hs)) ?_ ?_⟩
    · rintro i y H' hi ⟨s2, hD2⟩
      obtain ⟨n, hn, rfl⟩ := nv_get hi
      have tk := take_more hn
      have few := ig.few
      refine ⟨rfl, yes_go ⟨_, rfl, _, rfl, q, n, g, rfl, SqL.of (s2 _ _ hq), by omega, fun H3 s3 => ⟨_, s3 _ _ hD2, ?_, same_own (s2.trans s3) hD, ?_⟩⟩⟩
      · rw [nv_len, List.length_map, List.length_take]
        exact sl_lt (m := 8) (by omega)
      · rw [tk, List.map_append, List.map_cons, List.map_nil, nv_one]
        exact upd_same
    · rintro H' ⟨s2, hD2⟩
      rw [nv_len, List.take_length, shape_told ig] at hD2
      exact k H' D (s1.trans s2) (s1.free hD) hD2
/-! #### is_many -/
def spIsMany : Sp := fun vs H Q _ => ∃ n : Nat, vs = [.int (n : Int)] ∧ RetV (.bl (Kp126.okVars n)) H Q
theorem scIsMany : FnScope ["variables"] ["variables"] (defScope sIsMany) := ⟨rfl, rfl, rfl, by decide +kernel, rfl, by decide +kernel, by decide +kernel⟩
theorem okIsMany {f : Addr} {fd : FuncData} (F : Fun K "is_many" "is_many" sIsMany f fd) (g_MOST_VARIABLES : IntC mg "MOST_VARIABLES" (3)) : FnOk P w K mg base CX0 1 f fd ["variables"] (spIsMany) := by
  refine F.ok scIsMany (fun vs H Q E h => ?_) (fun cdv A outer s H vs Q E hr h => ?_)
  · obtain ⟨n, rfl, k⟩ := h
    rfl
  · obtain ⟨n, rfl, k⟩ := h
    refine ⟨_, (pss_one (ps_ret (pe_chain op_le op_le pe_int (pv 0) (pe_const g_MOST_VARIABLES)))), ?_⟩
    refine ⟨_, rfl, _, _, rfl, rfl, _, rfl, ?_⟩
    have q := k H (Same.refl H)
    have e3 : decide (n ≤ Kp126.VARS) = decide ((n : Int) ≤ 3) := decide_eq_decide.mpr (by show n ≤ 3 ↔ _; omega)
    by_cases c : 1 ≤ n
    · rw [decide_eq_true (show (1 : Int) ≤ (n : Int) by omega)]
      rw [show Kp126.okVars n = decide ((n : Int) ≤ 3) by unfold Kp126.okVars; rw [decide_eq_true c, e3]; rfl] at q
      exact iteT ⟨_, _, rfl, rfl, q⟩
    · rw [decide_eq_false (show ¬ (1 : Int) ≤ (n : Int) by omega)]
      rw [show Kp126.okVars n = false by unfold Kp126.okVars; rw [decide_eq_false c]; rfl] at q
      exact iteF q
/-! #### is_right -/
def spIsRight (K : PySem.W.Frag) : Sp := fun vs H Q _ => ∃ (a : Addr) (n z : Nat) (l : List Nat), vs = [.int (n : Int), .ref a, .int (z : Int)] ∧ SqL K H a (nv l) ∧ l.length = 3 ∧ Kp126.okVars n = true ∧ RetV (.bl (Kp126.rightRaw n ⟨l, z⟩)) H Q
theorem scIsRight : FnScope ["variables", "at", "none", "held", "number"] ["variables", "at", "none"] (defScope sIsRight) := ⟨rfl, rfl, rfl, by decide +kernel, rfl, by decide +kernel, by decide +kernel⟩
theorem okIsRight {f : Addr} {fd : FuncData} (F : Fun K "is_right" "is_right" sIsRight f fd) (n_any : mg "any" = none) (c_shape_of : Callee P w K mg base "shape_of" 3 ["numbers"] (spShapeOf K)) : FnOk P w K mg base CX0 4 f fd ["variables", "at", "none"] (spIsRight K) := by
  refine F.ok scIsRight (fun vs H Q E h => ?_) (fun cdv A outer s H vs Q E hr h => ?_)
  · obtain ⟨a, n, z, l, rfl, hs, hl, ok, k⟩ := h
    rfl
  · obtain ⟨a, n, z, l, rfl, hs, hl, ok, k⟩ := h
    refine ⟨_, (pss_cons (ps_if (PW.pt (pw_or (pt_cmpR op_ne (pv 2) pe_int (nomark _)) (pw_or1 (pt_val (pe_callB (cr_any rfl) rfl n_any PyProof.Rows.boot_any (pa_cons (pe_lc (own := [("number", 4)]) rfl scIsRight.nd (pi_list (pe_slice sl_list (pv 1) (po_some (pv 0)) po_none)) (blkOk_by (own := [("number", 4)]) (N := ["variables", "at", "none", "held", "number"]) (sc := defScope sIsRight) (by decide +kernel)) (fun _ _ _ _ _ => pg_name (i := 4) scIsRight.nd rfl (Or.inl rfl)) (fun _ _ _ _ _ => pts_nil) (fun _ _ _ _ _ => pe_cmpR op_ne (pv 4) pe_int (nomark _))) pa_nil)))))) (pss_one (ps_ret pe_bl)) pss_nil) (pss_cons (ps_set (i := 3) scIsRight.nd rfl (Or.inl rfl) (pe_slice sl_list (pv 1) po_none (po_some (pv 0)))) (pss_one (ps_ret (pe_cmpR (op_eqD hr.units) (pe_go c_shape_of (hr.mono (by decide)) (pa_cons (pv 3) pa_nil)) (pv 3) (nomark _)))))), ?_⟩
    obtain ⟨n1, n3⟩ := ok_vars ok
    refine ⟨_, rfl, rfl, _, rfl, ?_⟩
    by_cases cz : z = 0
    · subst cz
      refine iteF ⟨_, rfl, _, rfl, _, rfl, a, nv l, rfl, hs, fun r hr2 => ?_⟩
      rw [cut_from]
      have s1 := same_new (o := .lst (nv (l.drop n))) (Same.refl H) hr2
      refine ⟨r, rfl, ⟨_, SqL.of upd_same⟩, fun D hD => lc_list (K := K) (a := r) (xs := nv (l.drop n)) (fun i H' => Same (upd H r (.lst (nv (l.drop n)))) H' ∧ H' D = some (.lst ((((l.drop n).take i).map fun m => !decide (m = 0)).map V.bl))) ⟨same_new (Same.refl _) hD, upd_same⟩ (fun i H' _ h => h.1.seq (SqL.of upd_same)) ?_ ?_⟩
      · rintro i y H' hi ⟨s2, hD2⟩
        obtain ⟨m, hm, rfl⟩ := nv_get hi
        have tk := take_more hm
        refine ⟨rfl, yes_go ⟨_, rfl, rfl, _, hD2, ?_, same_own s2 hD, ?_⟩⟩
        · rw [List.length_map, List.length_map, List.length_take, List.length_drop]
          exact sl_lt (m := 3) (by omega)
        · rw [tk, List.map_append, List.map_append]
          have e : (!decide (V.int (m : Int) = V.int 0)) = !decide (m = 0) := by
            by_cases c : m = 0
            · subst c
              rfl
            · rw [decide_eq_false c, decide_eq_false (fun e => c (by injection e with e; omega))]
          rw [e]
          exact upd_same
      · rintro H' ⟨s2, hD2⟩
        rw [nv_len, List.take_length] at hD2
        have s3 := s1.trans s2
        refine ⟨D, _, rfl, SqL.of hD2, _, rfl, ?_⟩
        have ea : (((l.drop n).map fun m => !decide (m = 0)).any id) = !((l.drop n).all fun x => x == 0) := by
          rw [List.any_map]
          exact any_nz _
        rw [ea]
        cases ca : (l.drop n).all fun x => x == 0 with
        | false =>
          refine iteT ?_
          have q := k H' s3
          rw [show Kp126.rightRaw n ⟨l, 0⟩ = false by unfold Kp126.rightRaw; simp only [ca, Bool.and_false, Bool.false_and]] at q
          exact q
        | true =>
          refine iteF ⟨_, rfl, _, rfl, _, rfl, a, nv l, rfl, s3.seq hs, fun t ht => ?_⟩
          rw [cut_to]
          have s4 := same_new (o := .lst (nv (l.take n))) s3 ht
          have len : (l.take n).length = n := by rw [List.length_take]; omega
          refine ⟨_, rfl, t, l.take n, rfl, SqL.of upd_same, by omega, fun H5 u s5 nu hu => ?_⟩
          have ht5 := s5 t _ upd_same
          refine ⟨_, rfl, _, _, .lst (SqL.of hu) (dp_nv _), .lst (SqL.of ht5) (dp_nv _), shaped_nv _, shaped_nv _, ?_⟩
          have q := k H5 (s4.trans s5)
          rw [show Kp126.rightRaw n ⟨l, 0⟩ = PyData.eqv (.list ((Kp126.shapeOf (l.take n)).map fun n : Nat => PyData.int (n : Int))) (.list ((l.take n).map fun n : Nat => PyData.int (n : Int))) by
            unfold Kp126.rightRaw Kp126.right Kp126.shape
            simp only [PyData.eqv, eqv_nv, ca, len, beq_self_eq_true, Bool.true_and, decide_true]
            exact Bool.beq_eq_decide_eq _ _] at q
          exact q
    · rw [decide_eq_false (show ¬ V.int (z : Int) = V.int 0 from fun e => cz (by injection e with e; omega))]
      refine iteT (iteT ?_)
      have q := k H (Same.refl H)
      rw [show Kp126.rightRaw n ⟨l, z⟩ = false by unfold Kp126.rightRaw; rw [decide_eq_false cz]; rfl] at q
      exact q
/-! #### others_than -/
def spOthersThan (K : PySem.W.Frag) : Sp := fun vs H Q _ => ∃ (a : Addr) (l : List Nat) (v : Nat), vs = [.ref a, .int (v : Int)] ∧ SqL K H a (nv l) ∧ l.length ≤ 8 ∧ RetL (nv (l.eraseIdx v)) H Q
theorem scOthersThan : FnScope ["held", "variable", "place", "number"] ["held", "variable"] (defScope sOthersThan) := ⟨rfl, rfl, rfl, by decide +kernel, rfl, by decide +kernel, by decide +kernel⟩
theorem okOthersThan {f : Addr} {fd : FuncData} (F : Fun K "others_than" "others_than" sOthersThan f fd) (n_enumerate : mg "enumerate" = none) : FnOk P w K mg base CX0 1 f fd ["held", "variable"] (spOthersThan K) := by
  refine F.ok scOthersThan (fun vs H Q E h => ?_) (fun cdv A outer s H vs Q E hr h => ?_)
  · obtain ⟨a, l, v, rfl, hs, hl, k⟩ := h
    rfl
  · obtain ⟨a, l, v, rfl, hs, hl, k⟩ := h
    refine ⟨_, (pss_one (ps_ret (pe_lc (own := [("place", 2), ("number", 3)]) (g := gTup K 2 (gCons (gName 2) (gCons (gName 3) gNil))) rfl scOthersThan.nd (pi_enum rfl n_enumerate (pa_cons (pv 0) pa_nil)) (blkOk_by (own := [("place", 2), ("number", 3)]) (N := ["held", "variable", "place", "number"]) (sc := defScope sOthersThan) (by decide +kernel)) (fun _ _ _ _ _ => pg_tup rfl (pgs_cons (pg_name (i := 2) scOthersThan.nd rfl (Or.inl rfl)) (pgs_cons (pg_name (i := 3) scOthersThan.nd rfl (Or.inl rfl)) pgs_nil))) (fun _ _ _ _ _ => pts_one (pt_cmpR op_ne (pv 2) (pv 1) (nomark _))) (fun _ _ _ _ _ => pv 3)))), ?_⟩
    refine ⟨_, rfl, a, _, rfl, hs, fun D hD => lc_it (walk_enum (xs := nv l)) (fun i H' => Same H H' ∧ H' D = some (.lst (nv ((l.take i).eraseIdx v)))) ⟨same_new (Same.refl H) hD, upd_same⟩ (fun i H' _ h => h.1.seq hs) ?_ ?_⟩
    · rintro i y H' H2 hi ⟨s1, hD1⟩ ⟨T, x, y', rfl, nT, rfl, ex, ey⟩
      obtain rfl := Option.some.inj ex
      obtain ⟨n, hn, rfl⟩ := nv_get ey
      have te := erase_at (v := v) hn
      have s2 := same_new (o := .tup [.int (i : Nat), .int (n : Int)]) s1 nT
      have hD2 : upd H' T (.tup [.int (i : Nat), .int (n : Int)]) D = _ := (upd_ne (ne_of_none hD1 nT)).trans hD1
      refine ⟨T, _, rfl, SqT.of upd_same, rfl, _, _, rfl, _, _, rfl, rfl, rfl, _, rfl, _, rfl, rfl, _, rfl, ?_⟩
      by_cases c : i = v
      · subst c
        rw [decide_eq_true rfl]
        refine iteF ⟨s2, ?_⟩
        rw [te, if_pos rfl]
        exact hD2
      · rw [decide_eq_false (show ¬ V.int ((i : Nat) : Int) = V.int (v : Int) from fun e => c (by injection e with e; omega))]
        refine iteT ⟨_, rfl, _, hD2, ?_, same_own s2 hD, ?_⟩
        · rw [nv_len]
          have := List.length_eraseIdx_le (l.take i) v
          rw [List.length_take] at this
          exact sl_lt (m := 8) (by omega)
        · rw [te, if_neg c, nv_one]
          exact upd_same
    · rintro H' ⟨s1, hD1⟩
      rw [nv_len, List.take_length] at hD1
      exact k H' D s1 hD hD1
/-! #### how_many_places -/
def spHowManyPlaces (K : PySem.W.Frag) : Sp := fun vs H Q _ => ∃ (a : Addr) (l : List Nat) (v : Nat), vs = [.ref a, .int (v : Int)] ∧ SqL K H a (nv l) ∧ l.length ≤ 8 ∧ RetV (.int (Kp126.places l v : Nat)) H Q
theorem scHowManyPlaces : FnScope ["held", "variable"] ["held", "variable"] (defScope sHowManyPlaces) := ⟨rfl, rfl, rfl, by decide +kernel, rfl, by decide +kernel, by decide +kernel⟩
theorem okHowManyPlaces {f : Addr} {fd : FuncData} (F : Fun K "how_many_places" "how_many_places" sHowManyPlaces f fd) (g_FIRST_AT_ONE : IntC mg "FIRST_AT_ONE" (5)) (g_APART : IntC mg "APART" (2)) (n_len : mg "len" = none) (c_great_ones : Callee P w K mg base "great_ones" 2 ["numbers"] (spGreatOnes K)) (c_others_than : Callee P w K mg base "others_than" 1 ["held", "variable"] (spOthersThan K)) : FnOk P w K mg base CX0 3 f fd ["held", "variable"] (spHowManyPlaces K) := by
  refine F.ok scHowManyPlaces (fun vs H Q E h => ?_) (fun cdv A outer s H vs Q E hr h => ?_)
  · obtain ⟨a, l, v, rfl, hs, hl, k⟩ := h
    rfl
  · obtain ⟨a, l, v, rfl, hs, hl, k⟩ := h
    refine ⟨_, (pss_one (ps_ret (pe_op op_add (pe_const g_FIRST_AT_ONE) (pe_op op_mul (pe_const g_APART) (pe_callB call_len rfl n_len boot_len (pa_cons (pe_go c_great_ones (hr.mono (by decide)) (pa_cons (pe_go c_others_than (hr.mono (by decide)) (pa_cons (pv 0) (pa_cons (pv 1) pa_nil))) pa_nil)) pa_nil)))))), ?_⟩
    refine ⟨_, rfl, _, rfl, a, l, v, rfl, hs, hl, fun H1 p s1 np hp => ⟨p, _, rfl, SqL.of hp, by have := List.length_eraseIdx_le l v; omega, fun g ig H2 q s2 nq hq => ?_⟩⟩
    refine ⟨_, _, rfl, .inl ⟨_, SqL.of hq, rfl⟩, _, _, rfl, rfl, .inl ⟨by decide, by decide⟩, _, _, rfl, rfl, ?_⟩
    rw [nv_len]
    have r := k H2 (s1.trans s2)
    rw [places_len ig] at r
    exact r
/-! #### spread -/
def spSpread (K : PySem.W.Frag) : Sp := fun vs H Q _ => ∃ (a : Addr) (n : Nat) (g : List Nat), vs = [.int (n : Int), .ref a] ∧ SqL K H a (nv g) ∧ g.Pairwise (· < ·) ∧ (3 < n → n ∈ g) ∧ RetV (.int (spread g n : Nat)) H Q
theorem scSpread : FnScope ["number", "great"] ["number", "great"] (defScope sSpread) := ⟨rfl, rfl, rfl, by decide +kernel, rfl, by decide +kernel, by decide +kernel⟩
theorem okSpread {f : Addr} {fd : FuncData} (F : Fun K "spread" "spread" sSpread f fd) (g_FIRST_AT_ONE : IntC mg "FIRST_AT_ONE" (5)) (g_APART : IntC mg "APART" (2)) (c_is_great : Callee P w K mg base "is_great" 1 ["number"] (spIsGreat)) : FnOk P w K mg base CX0 2 f fd ["number", "great"] (spSpread K) := by
  refine F.ok scSpread (fun vs H Q E h => ?_) (fun cdv A outer s H vs Q E hr h => ?_)
  · obtain ⟨a, n, g, rfl, hs, up, hin, k⟩ := h
    rfl
  · obtain ⟨a, n, g, rfl, hs, up, hin, k⟩ := h
    refine ⟨_, (pss_cons (ps_if (pt_val (pe_go c_is_great (hr.mono (by decide)) (pa_cons (pv 0) pa_nil))) (pss_one (ps_ret (pe_op op_add (pe_const g_FIRST_AT_ONE) (pe_op op_mul (pe_const g_APART) (pe_bm PySem.F.plainAttrs_list PySem.F.slot_list_index PySem.F.type_list_index mt_index (pv 1) (pa_cons (pv 0) pa_nil)))))) pss_nil) (pss_one (ps_ret (pv 0)))), ?_⟩
    refine ⟨_, rfl, n, rfl, fun H1 s1 => ⟨_, rfl, ?_⟩⟩
    by_cases c : 3 < n
    · rw [decide_eq_true c]
      have hn := hin c
      refine iteT ⟨_, rfl, .inl ⟨rfl, _, s1.seq hs⟩, _, rfl, a, nv g, _, (g.filter fun m => decide (m < n)).length, .int (n : Int), rfl, rfl, s1.seq hs, rfl, nv_flat g, ?_, ?_, fun m z hm hz => ?_, ?_⟩
      · rw [List.getElem?_map, index_less up hn]
        rfl
      · rw [eqV_nat]
        exact decide_eq_true rfl
      · obtain ⟨w', hw, rfl⟩ := nv_get hz
        rw [eqV_nat]
        exact decide_eq_false (index_before up hm hw hn)
      · refine ⟨_, _, rfl, rfl, .inl ⟨by decide, by decide⟩, _, _, rfl, rfl, ?_⟩
        have q := k H1 s1
        rw [show spread g n = 5 + 2 * (g.filter fun m => decide (m < n)).length from if_pos c] at q
        exact q
    · rw [decide_eq_false c]
      refine iteF ⟨_, rfl, ?_⟩
      have q := k H1 s1
      rw [show spread g n = n from if_neg c] at q
      exact q
/-! #### with_place -/
def spWithPlace (K : PySem.W.Frag) : Sp := fun vs H Q _ => ∃ (a : Addr) (l : List Nat) (v c : Nat), vs = [.ref a, .int (v : Int), .int (c : Int)] ∧ SqL K H a (nv l) ∧ l.length ≤ 8 ∧ RetL (nv ((Kp126.apart l v).set v c)) H Q
theorem scWithPlace : FnScope ["held", "variable", "place", "great", "found", "one", "number"] ["held", "variable", "place"] (defScope sWithPlace) := ⟨rfl, rfl, rfl, by decide +kernel, rfl, by decide +kernel, by decide +kernel⟩
theorem okWithPlace {f : Addr} {fd : FuncData} (F : Fun K "with_place" "with_place" sWithPlace f fd) (n_enumerate : mg "enumerate" = none) (c_great_ones : Callee P w K mg base "great_ones" 2 ["numbers"] (spGreatOnes K)) (c_others_than : Callee P w K mg base "others_than" 1 ["held", "variable"] (spOthersThan K)) (c_spread : Callee P w K mg base "spread" 2 ["number", "great"] (spSpread K)) : FnOk P w K mg base CX0 3 f fd ["held", "variable", "place"] (spWithPlace K) := by
  refine F.ok scWithPlace (fun vs H Q E h => ?_) (fun cdv A outer s H vs Q E hr h => ?_)
  · obtain ⟨a, l, v, c, rfl, hs, hl, k⟩ := h
    rfl
  · obtain ⟨a, l, v, c, rfl, hs, hl, k⟩ := h
    refine ⟨_, (pss_cons (ps_set (i := 3) scWithPlace.nd rfl (Or.inl rfl) (pe_go c_great_ones (hr.mono (by decide)) (pa_cons (pe_go c_others_than (hr.mono (by decide)) (pa_cons (pv 0) (pa_cons (pv 1) pa_nil))) pa_nil))) (pss_cons (ps_set (i := 4) scWithPlace.nd rfl (Or.inl rfl) (pe_lst pa_nil)) (pss_cons (ps_for PassesOwn.never rfl (pi_enum rfl n_enumerate (pa_cons (pv 0) pa_nil)) (pg_tup rfl (pgs_cons (pg_name (i := 5) scWithPlace.nd rfl (Or.inl rfl)) (pgs_cons (pg_name (i := 6) scWithPlace.nd rfl (Or.inl rfl)) pgs_nil))) (pss_one (ps_expr (pe_bm PySem.F.plainAttrs_list PySem.F.slot_list_append PySem.F.type_list_append mt_append (pv 4) (pa_cons (pe_ifExp (pt_cmpR op_eq (pv 5) (pv 1) (nomark _)) (pv 2) (pe_go c_spread (hr.mono (by decide)) (pa_cons (pv 6) (pa_cons (pv 3) pa_nil)))) pa_nil))))) (pss_one (ps_ret (pv 4)))))), ?_⟩
    refine ⟨_, rfl, _, rfl, a, l, v, rfl, hs, hl, fun H1 p s1 np hp => ⟨p, _, rfl, SqL.of hp, by have := List.length_eraseIdx_le l v; omega, fun g ig H2 q s2 nq hq => ?_⟩⟩
    have s3 := s1.trans s2
    refine ⟨sl_le (m := 0) (Nat.le_refl _), fun f hf => ?_⟩
    have s4 := same_new (o := .lst []) s3 hf
    have fq : f ≠ q := (ne_of_none hq hf).symm
    have hq4 : upd H2 f (.lst []) q = some (.lst (nv g)) := (upd_ne (ne_of_none hq hf)).trans hq
    refine ⟨_, rfl, a, _, rfl, s4.seq hs, for_it (walk_enum (xs := nv l)) (fun i σ H' => ∃ u1 u2 : Option V, σ = [some (.ref a), some (.int (v : Int)), some (.int (c : Int)), some (.ref q), some (.ref f), u1, u2] ∧ Same H H' ∧ H' q = some (.lst (nv g)) ∧ H' f = some (.lst (nv (((l.map (spread g)).set v c).take i))))
      ⟨none, none, rfl, s4, hq4, upd_same⟩ (fun i σ H' _ ⟨_, _, _, h, _⟩ => h.seq hs) ?_ ?_⟩
    · rintro i y σ H' H5 hi ⟨u1, u2, rfl, s5, hq5, hf5⟩ ⟨T, x, y', rfl, nT, rfl, ex, ey⟩
      obtain rfl := Option.some.inj ex
      obtain ⟨n, hn, rfl⟩ := nv_get ey
      have tw := with_turn (g := g) (v := v) (c := c) hn
      have s6 := same_new (o := .tup [.int (i : Nat), .int (n : Int)]) s5 nT
      have hq6 : upd H' T (.tup [.int (i : Nat), .int (n : Int)]) q = _ := (upd_ne (ne_of_none hq5 nT)).trans hq5
      have hf6 : upd H' T (.tup [.int (i : Nat), .int (n : Int)]) f = _ := (upd_ne (ne_of_none hf5 nT)).trans hf5
      have small : (nv (((l.map (spread g)).set v c).take i)).length < sizeLine := by
        rw [nv_len, List.length_take, List.length_set, List.length_map]
        exact sl_lt (m := 8) (by omega)
      refine ⟨T, _, rfl, SqT.of upd_same, rfl, _, _, rfl, _, _, rfl, rfl, _, rfl, .inl ⟨rfl, _, SqL.of hf6⟩, _, rfl, _, rfl, rfl, _, rfl, ?_⟩
      by_cases e : i = v
      · subst e
        rw [decide_eq_true rfl]
        refine iteT ⟨_, rfl, f, _, _, rfl, rfl, hf6, small, _, _, rfl, same_own s6 (s3.free hf), (upd_ne fq.symm).trans hq6, ?_⟩
        rw [tw, if_pos rfl, nv_one]
        exact upd_same
      · rw [decide_eq_false (show ¬ V.int ((i : Nat) : Int) = V.int (v : Int) from fun z => e (by injection z with z; omega))]
        refine iteF ⟨_, rfl, _, rfl, q, n, g, rfl, SqL.of hq6, ig.up, fun h => others_great ig hn e h, fun H7 s7 => ⟨f, _, _, rfl, rfl, s7 _ _ hf6, small, _, _, rfl, same_own (s6.trans s7) (s3.free hf), (upd_ne fq.symm).trans (s7 _ _ hq6), ?_⟩⟩
        rw [tw, if_neg e, nv_one]
        exact upd_same
    · rintro σ H' ⟨u1, u2, rfl, s5, hq5, hf5⟩
      rw [nv_len, List.take_of_length_le (by rw [List.length_set, List.length_map]; exact Nat.le_refl _), ← apart_spread ig] at hf5
      exact ⟨_, rfl, k H' f s5 (s3.free hf) hf5⟩
/-! #### __init__ -/
def spInit (C : Addr) : Sp := fun vs H Q _ => ∃ (p dx : Addr) (o : Kp126.Node) (ch : Nat), vs = [.ref p, .int (o.kind : Nat), .int (o.v : Nat), .int (o.w : Nat), .int (o.c : Nat), .int (o.none_ : Nat), .int (ch : Nat)] ∧ H p = some (.ins C dx []) ∧
  ∀ H' : Hp, H' p = some (.ins C dx (stF o ch)) → (∀ b u, H b = some u → b ≠ p → H' b = some u) → Q .non H'
theorem scInit : FnScope ["self", "kind", "v", "w", "c", "none", "choice"] ["self", "kind", "v", "w", "c", "none", "choice"] (defScope sInit) := ⟨rfl, rfl, rfl, by decide +kernel, rfl, by decide +kernel, by decide +kernel⟩
theorem okInit {f : Addr} {fd : FuncData} (F : Fun K "__init__" "Step.__init__" sInit f fd) (T : StepTxt K C) : FnOk P w K mg base CX0 1 f fd ["self", "kind", "v", "w", "c", "none", "choice"] (spInit C) := by
  refine F.ok scInit (fun vs H Q E h => ?_) (fun cdv A outer s H vs Q E hr h => ?_)
  · obtain ⟨p, dx, o, ch, rfl, hp, k⟩ := h
    rfl
  · obtain ⟨p, dx, o, ch, rfl, hp, k⟩ := h
    refine ⟨_, (pss_cons (ps_fld (pv 0) (pv 1) rfl) (pss_cons (ps_fld (pv 0) (pv 2) rfl) (pss_cons (ps_fld (pv 0) (pv 3) rfl) (pss_cons (ps_fld (pv 0) (pv 4) rfl) (pss_cons (ps_fld (pv 0) (pv 5) rfl) (pss_one (ps_fld (pv 0) (pv 6) rfl))))))), ?_⟩
    refine ⟨_, rfl, _, rfl, p, C, dx, [], rfl, hp, T.cl, T.nK, (by show 0 < 1000; decide), ?_⟩
    refine ⟨_, rfl, _, rfl, p, C, dx, _, rfl, upd_same, T.cl, T.nV, (by show 1 < 1000; decide), ?_⟩
    refine ⟨_, rfl, _, rfl, p, C, dx, _, rfl, upd_same, T.cl, T.nW, (by rw [put_v]; show 2 < 1000; decide), ?_⟩
    refine ⟨_, rfl, _, rfl, p, C, dx, _, rfl, upd_same, T.cl, T.nC, (by rw [put_v, put_w]; show 3 < 1000; decide), ?_⟩
    refine ⟨_, rfl, _, rfl, p, C, dx, _, rfl, upd_same, T.cl, T.nN, (by rw [put_v, put_w, put_c]; show 4 < 1000; decide), ?_⟩
    refine ⟨_, rfl, _, rfl, p, C, dx, _, rfl, upd_same, T.cl, T.nH, (by rw [put_v, put_w, put_c, put_none]; show 5 < 1000; decide), ?_⟩
    refine k _ ?_ fun b u e hb => ?_
    · rw [put_v, put_w, put_c, put_none, put_choice]
      exact upd_same
    · rw [upd_ne hb, upd_ne hb, upd_ne hb, upd_ne hb, upd_ne hb, upd_ne hb]
      exact e
/-! #### are_variables -/
def spAreVariables (K : PySem.W.Frag) (C : Addr) : Sp := fun vs H Q _ => ∃ (p dx a : Addr) (o : Kp126.Node) (ch : Nat) (l : List Nat), vs = [.ref p, .ref a] ∧ H p = some (.ins C dx (stF o ch)) ∧ SqL K H a (nv l) ∧ l.length ≤ 8 ∧ RetV (.bl (vars o l.length)) H Q
theorem scAreVariables : FnScope ["step", "held"] ["step", "held"] (defScope sAreVariables) := ⟨rfl, rfl, rfl, by decide +kernel, rfl, by decide +kernel, by decide +kernel⟩
theorem okAreVariables {f : Addr} {fd : FuncData} (F : Fun K "are_variables" "are_variables" sAreVariables f fd) (g_COPY : IntC mg "COPY" (3)) (g_LESS : IntC mg "LESS" (4)) (g_END : IntC mg "END" (0)) (n_len : mg "len" = none) (T : StepTxt K C) : FnOk P w K mg base CX0 1 f fd ["step", "held"] (spAreVariables K C) := by
  refine F.ok scAreVariables (fun vs H Q E h => ?_) (fun cdv A outer s H vs Q E hr h => ?_)
  · obtain ⟨p, dx, a, o, ch, l, rfl, hp, hs, hl, k⟩ := h
    rfl
  · obtain ⟨p, dx, a, o, ch, l, rfl, hp, hs, hl, k⟩ := h
    refine ⟨_, (pss_cons (ps_if (PW.pt (pw_and (pt_cmpR op_in_seq (pe_fld (pv 0) rfl) (pe_tup (pa_cons (pe_const g_COPY) (pa_cons (pe_const g_LESS) pa_nil))) (by rfl)) (pw_and1 (pt_cmpR op_ge (pe_fld (pv 0) rfl) (pe_callB call_len rfl n_len boot_len (pa_cons (pv 1) pa_nil)) (nomark _))))) (pss_one (ps_ret pe_bl)) pss_nil) (pss_one (ps_ret (pe_or (pe_cmpR op_eq (pe_fld (pv 0) rfl) (pe_const g_END) (nomark _)) (pe_one (pe_cmpR op_lt (pe_fld (pv 0) rfl) (pe_callB call_len rfl n_len boot_len (pa_cons (pv 1) pa_nil)) (nomark _))))))), ?_⟩
    refine ⟨_, rfl, p, C, dx, _, _, rfl, hp, T.cl, T.nK, lk_kind o ch, sl_le (m := 2) (Nat.le_refl _), fun t ht => ⟨t, _, rfl, .inr (SqT.of upd_same), rfl, rfl, _, rfl, ?_⟩⟩
    have s1 := same_new (o := .tup [.int 3, .int 4]) (Same.refl H) ht
    have hp1 := s1 _ _ hp
    have q := k _ s1
    show (if inV (V.int (o.kind : Nat)) [.int 3, .int 4] = true then _ else _)
    rw [in_34]
    cases e34 : (o.kind == 3 || o.kind == 4) with
    | false =>
      refine iteF (iteF ?_)
      rw [show vars o l.length = (o.kind == 0 || decide (o.v < l.length)) by unfold vars; rw [e34]; rfl] at q
      refine ⟨_, rfl, p, C, dx, _, _, rfl, hp1, T.cl, T.nK, lk_kind o ch, rfl, _, rfl, ?_⟩
      rw [show decide (V.int (o.kind : Nat) = V.int 0) = (o.kind == 0) from int_eq_nat o.kind 0]
      cases e0 : (o.kind == 0) with
      | true =>
        rw [e0] at q
        exact iteT q
      | false =>
        rw [e0, ← lt_nat] at q
        refine iteF ⟨_, rfl, p, C, dx, _, _, rfl, hp1, T.cl, T.nV, lk_v o ch, _, rfl, _, _, rfl, .inl ⟨_, s1.seq hs, rfl⟩, _, _, rfl, rfl, ?_⟩
        rw [nv_len]
        exact q
    | true =>
      refine iteT ⟨_, rfl, p, C, dx, _, _, rfl, hp1, T.cl, T.nW, lk_w o ch, _, rfl, _, _, rfl, .inl ⟨_, s1.seq hs, rfl⟩, _, _, rfl, rfl, _, rfl, ?_⟩
      rw [nv_len, le_nat]
      cases ew : decide (l.length ≤ o.w) with
      | true =>
        refine iteT ?_
        rw [show vars o l.length = false by unfold vars; rw [e34, ew]; rfl] at q
        exact q
      | false =>
        refine iteF ?_
        rw [show vars o l.length = (o.kind == 0 || decide (o.v < l.length)) by unfold vars; rw [e34, ew]; rfl] at q
        refine ⟨_, rfl, p, C, dx, _, _, rfl, hp1, T.cl, T.nK, lk_kind o ch, rfl, _, rfl, ?_⟩
        rw [show decide (V.int (o.kind : Nat) = V.int 0) = (o.kind == 0) from int_eq_nat o.kind 0]
        cases e0 : (o.kind == 0) with
        | true =>
          rw [e0] at q
          exact iteT q
        | false =>
          rw [e0, ← lt_nat] at q
          refine iteF ⟨_, rfl, p, C, dx, _, _, rfl, hp1, T.cl, T.nV, lk_v o ch, _, rfl, _, _, rfl, .inl ⟨_, s1.seq hs, rfl⟩, _, _, rfl, rfl, ?_⟩
          rw [nv_len]
          exact q
/-! #### is_number -/
def spIsNumber (C : Addr) : Sp := fun vs H Q _ => ∃ (p dx : Addr) (o : Kp126.Node) (ch : Nat), vs = [.ref p] ∧ H p = some (.ins C dx (stF o ch)) ∧ RetV (.bl (num o)) H Q
theorem scIsNumber : FnScope ["step"] ["step"] (defScope sIsNumber) := ⟨rfl, rfl, rfl, by decide +kernel, rfl, by decide +kernel, by decide +kernel⟩
theorem okIsNumber {f : Addr} {fd : FuncData} (F : Fun K "is_number" "is_number" sIsNumber f fd) (g_PUT : IntC mg "PUT" (2)) (g_SMALL : IntC mg "SMALL" (5)) (T : StepTxt K C) : FnOk P w K mg base CX0 1 f fd ["step"] (spIsNumber C) := by
  refine F.ok scIsNumber (fun vs H Q E h => ?_) (fun cdv A outer s H vs Q E hr h => ?_)
  · obtain ⟨p, dx, o, ch, rfl, hp, k⟩ := h
    rfl
  · obtain ⟨p, dx, o, ch, rfl, hp, k⟩ := h
    refine ⟨_, (pss_cons (ps_if (pt_cmpR op_eq (pe_fld (pv 0) rfl) (pe_const g_PUT) (nomark _)) (pss_one (ps_ret (pe_cmpR op_le (pe_fld (pv 0) rfl) pe_int (nomark _)))) pss_nil) (pss_one (ps_ret (pe_or (pe_cmpR op_ne (pe_fld (pv 0) rfl) (pe_const g_SMALL) (nomark _)) (pe_one (pe_chain op_le op_le pe_int (pe_fld (pv 0) rfl) pe_int)))))), ?_⟩
    have q := k H (Same.refl H)
    refine ⟨_, rfl, p, C, dx, _, _, rfl, hp, T.cl, T.nK, lk_kind o ch, rfl, _, rfl, ?_⟩
    rw [show decide (V.int (o.kind : Nat) = V.int 2) = (o.kind == 2) from int_eq_nat o.kind 2]
    by_cases k2 : o.kind = 2
    · rw [show (o.kind == 2) = true by rw [k2]; rfl]
      rw [show num o = decide ((o.c : Int) ≤ 3) from (if_pos k2).trans (le_nat o.c 3).symm] at q
      exact iteT ⟨_, rfl, p, C, dx, _, _, rfl, hp, T.cl, T.nC, lk_c o ch, _, _, rfl, rfl, q⟩
    · rw [show (o.kind == 2) = false from beq_eq_false_iff_ne.mpr k2]
      rw [show num o = (o.kind != 5 || (decide (1 ≤ o.c) && decide (o.c ≤ 4))) from if_neg k2] at q
      refine iteF ⟨_, rfl, p, C, dx, _, _, rfl, hp, T.cl, T.nK, lk_kind o ch, rfl, _, rfl, ?_⟩
      rw [show decide (V.int (o.kind : Nat) = V.int 5) = (o.kind == 5) from int_eq_nat o.kind 5]
      cases e5 : (o.kind == 5) with
      | false =>
        rw [show (o.kind != 5) = true by show (!(o.kind == 5)) = true; rw [e5]; rfl] at q
        exact iteT q
      | true =>
        rw [show (o.kind != 5) = false by show (!(o.kind == 5)) = false; rw [e5]; rfl] at q
        refine iteF ⟨_, rfl, p, C, dx, _, _, rfl, hp, T.cl, T.nC, lk_c o ch, _, _, rfl, rfl, _, rfl, ?_⟩
        rw [show decide ((1 : Int) ≤ (o.c : Nat)) = decide (1 ≤ o.c) from le_nat 1 o.c]
        cases e1 : decide (1 ≤ o.c) with
        | true =>
          rw [e1, ← le_nat] at q
          exact iteT ⟨_, _, rfl, rfl, q⟩
        | false =>
          rw [e1] at q
          exact iteF q
/-! #### is_choice -/
def spIsChoice (K : PySem.W.Frag) (C : Addr) : Sp := fun vs H Q _ => ∃ (p dx a : Addr) (o : Kp126.Node) (ch : Nat) (l : List Nat), vs = [.ref p, .ref a] ∧ H p = some (.ins C dx (stF o ch)) ∧ SqL K H a (nv l) ∧ l.length ≤ 8 ∧ RetV (.bl (Kp126.okChoice o ch l)) H Q
theorem scIsChoice : FnScope ["step", "held"] ["step", "held"] (defScope sIsChoice) := ⟨rfl, rfl, rfl, by decide +kernel, rfl, by decide +kernel, by decide +kernel⟩
theorem okIsChoice {f : Addr} {fd : FuncData} (F : Fun K "is_choice" "is_choice" sIsChoice f fd) (g_ANY : IntC mg "ANY" (1)) (c_how_many_places : Callee P w K mg base "how_many_places" 3 ["held", "variable"] (spHowManyPlaces K)) (T : StepTxt K C) : FnOk P w K mg base CX0 4 f fd ["step", "held"] (spIsChoice K C) := by
  refine F.ok scIsChoice (fun vs H Q E h => ?_) (fun cdv A outer s H vs Q E hr h => ?_)
  · obtain ⟨p, dx, a, o, ch, l, rfl, hp, hs, hl, k⟩ := h
    rfl
  · obtain ⟨p, dx, a, o, ch, l, rfl, hp, hs, hl, k⟩ := h
    refine ⟨_, (pss_cons (ps_if (pt_cmpR op_eq (pe_fld (pv 0) rfl) (pe_const g_ANY) (nomark _)) (pss_one (ps_ret (pe_cmpR op_lt (pe_fld (pv 0) rfl) (pe_go c_how_many_places (hr.mono (by decide)) (pa_cons (pv 1) (pa_cons (pe_fld (pv 0) rfl) pa_nil))) (nomark _)))) pss_nil) (pss_one (ps_ret (pe_cmpR op_eq (pe_fld (pv 0) rfl) pe_int (nomark _))))), ?_⟩
    refine ⟨_, rfl, p, C, dx, _, _, rfl, hp, T.cl, T.nK, lk_kind o ch, rfl, _, rfl, ?_⟩
    rw [show decide (V.int (o.kind : Nat) = V.int 1) = (o.kind == 1) from int_eq_nat o.kind 1]
    by_cases k1 : o.kind = 1
    · rw [show (o.kind == 1) = true by rw [k1]; rfl]
      refine iteT ⟨_, rfl, p, C, dx, _, _, rfl, hp, T.cl, T.nH, lk_choice o ch, _, rfl, _, rfl, p, C, dx, _, _, rfl, hp, T.cl, T.nV, lk_v o ch, a, l, o.v, rfl, hs, hl, fun H1 s1 => ⟨_, _, rfl, rfl, ?_⟩⟩
      have q := k H1 s1
      rw [show Kp126.okChoice o ch l = decide (ch < Kp126.places l o.v) from if_pos k1, ← lt_nat] at q
      exact q
    · rw [show (o.kind == 1) = false from beq_eq_false_iff_ne.mpr k1]
      refine iteF ⟨_, rfl, p, C, dx, _, _, rfl, hp, T.cl, T.nH, lk_choice o ch, rfl, ?_⟩
      have q := k H (Same.refl H)
      rw [show Kp126.okChoice o ch l = (ch == 0) from if_neg k1, ← show decide (V.int (ch : Nat) = V.int 0) = (ch == 0) from int_eq_nat ch 0] at q
      exact q
/-! #### is_as_told -/
def spIsAsTold (K : PySem.W.Frag) (C : Addr) : Sp := fun vs H Q _ => ∃ (p dx a : Addr) (o : Kp126.Node) (ch : Nat) (l : List Nat), vs = [.ref p, .ref a] ∧ H p = some (.ins C dx (stF o ch)) ∧ SqL K H a (nv l) ∧ l.length ≤ 8 ∧ RetV (.bl (Kp126.okNode l.length o && Kp126.okChoice o ch l)) H Q
theorem scIsAsTold : FnScope ["step", "held"] ["step", "held"] (defScope sIsAsTold) := ⟨rfl, rfl, rfl, by decide +kernel, rfl, by decide +kernel, by decide +kernel⟩
theorem okIsAsTold {f : Addr} {fd : FuncData} (F : Fun K "is_as_told" "is_as_told" sIsAsTold f fd) (g_TELL : IntC mg "TELL" (6)) (c_are_variables : Callee P w K mg base "are_variables" 1 ["step", "held"] (spAreVariables K C)) (c_is_number : Callee P w K mg base "is_number" 1 ["step"] (spIsNumber C)) (c_is_choice : Callee P w K mg base "is_choice" 4 ["step", "held"] (spIsChoice K C)) (T : StepTxt K C) : FnOk P w K mg base CX0 5 f fd ["step", "held"] (spIsAsTold K C) := by
  refine F.ok scIsAsTold (fun vs H Q E h => ?_) (fun cdv A outer s H vs Q E hr h => ?_)
  · obtain ⟨p, dx, a, o, ch, l, rfl, hp, hs, hl, k⟩ := h
    rfl
  · obtain ⟨p, dx, a, o, ch, l, rfl, hp, hs, hl, k⟩ := h
    refine ⟨_, (pss_cons (ps_if (PW.pt (pw_or (pt_cmpR op_gt (pe_fld (pv 0) rfl) (pe_const g_TELL) (nomark _)) (pw_or1 (pt_cmpR op_ne (pe_fld (pv 0) rfl) pe_int (nomark _))))) (pss_one (ps_ret pe_bl)) pss_nil) (pss_cons (ps_if (PW.pt (pw_or (pt_not (pt_val (pe_go c_are_variables (hr.mono (by decide)) (pa_cons (pv 0) (pa_cons (pv 1) pa_nil))))) (pw_or1 (pt_not (pt_val (pe_go c_is_number (hr.mono (by decide)) (pa_cons (pv 0) pa_nil))))))) (pss_one (ps_ret pe_bl)) pss_nil) (pss_one (ps_ret (pe_go c_is_choice (hr.mono (by decide)) (pa_cons (pv 0) (pa_cons (pv 1) pa_nil))))))), ?_⟩
    refine ⟨_, rfl, p, C, dx, _, _, rfl, hp, T.cl, T.nK, lk_kind o ch, _, _, rfl, rfl, _, rfl, ?_⟩
    rw [show decide ((6 : Int) < (o.kind : Nat)) = decide (6 < o.kind) from lt_nat 6 o.kind]
    cases e6 : decide (6 < o.kind) with
    | true => exact iteT (iteT (by rw [show (Kp126.okNode l.length o && Kp126.okChoice o ch l) = false by rw [ok_node, e6]; simp] at k; exact k _ (Same.refl H)))
    | false =>
      refine iteF ⟨_, rfl, p, C, dx, _, _, rfl, hp, T.cl, T.nN, lk_none o ch, rfl, _, rfl, ?_⟩
      rw [show decide (V.int (o.none_ : Nat) = V.int 0) = (o.none_ == 0) from int_eq_nat o.none_ 0]
      cases e0 : (o.none_ == 0) with
      | false => exact iteT (by rw [show (Kp126.okNode l.length o && Kp126.okChoice o ch l) = false by rw [ok_node, e6, e0]; simp] at k; exact k _ (Same.refl H))
      | true =>
        refine iteF ⟨_, rfl, _, rfl, p, dx, a, o, ch, l, rfl, hp, hs, hl, fun H1 s1 => ⟨_, rfl, ?_⟩⟩
        cases ev : vars o l.length with
        | false => exact iteT (iteT (by rw [show (Kp126.okNode l.length o && Kp126.okChoice o ch l) = false by rw [ok_node, ev]; simp] at k; exact k _ (s1)))
        | true =>
          refine iteF ⟨_, rfl, p, dx, o, ch, rfl, s1 _ _ hp, fun H2 s2 => ⟨_, rfl, ?_⟩⟩
          cases en : num o with
          | false => exact iteT (by rw [show (Kp126.okNode l.length o && Kp126.okChoice o ch l) = false by rw [ok_node, en]; simp] at k; exact k _ (s1.trans s2))
          | true =>
            refine iteF ⟨_, rfl, _, rfl, p, dx, a, o, ch, l, rfl, s2 _ _ (s1 _ _ hp), s2.seq (s1.seq hs), hl, fun H3 s3 => ?_⟩
            rw [show (Kp126.okNode l.length o && Kp126.okChoice o ch l) = Kp126.okChoice o ch l by rw [ok_node, e6, e0, ev, en]; simp] at k
            exact k H3 ((s1.trans s2).trans s3)
/-! #### with_number -/
def spWithNumber (K : PySem.W.Frag) : Sp := fun vs H Q _ => ∃ (a : Addr) (l : List Nat) (v n : Nat), vs = [.ref a, .int (v : Int), .int (n : Int)] ∧ SqL K H a (nv l) ∧ l.length ≤ 8 ∧ v < l.length ∧ RetL (nv (l.set v n)) H Q
theorem scWithNumber : FnScope ["held", "variable", "number"] ["held", "variable", "number"] (defScope sWithNumber) := ⟨rfl, rfl, rfl, by decide +kernel, rfl, by decide +kernel, by decide +kernel⟩
theorem okWithNumber {f : Addr} {fd : FuncData} (F : Fun K "with_number" "with_number" sWithNumber f fd) : FnOk P w K mg base CX0 1 f fd ["held", "variable", "number"] (spWithNumber K) := by
  refine F.ok scWithNumber (fun vs H Q E h => ?_) (fun cdv A outer s H vs Q E hr h => ?_)
  · obtain ⟨a, l, v, n, rfl, hs, hl, hv, k⟩ := h
    rfl
  · obtain ⟨a, l, v, n, rfl, hs, hl, hv, k⟩ := h
    refine ⟨_, (pss_one (ps_ret (pe_op op_cat (pe_op op_cat (pe_slice sl_list (pv 0) po_none (po_some (pv 1))) (pe_lst (pa_cons (pv 2) pa_nil))) (pe_slice sl_list (pv 0) (po_some (pe_op op_add (pv 1) pe_int)) po_none)))), ?_⟩
    refine ⟨_, rfl, _, rfl, _, rfl, a, nv l, rfl, hs, fun p hp => ?_⟩
    rw [cut_to]
    have s1 := same_new (o := .lst (nv (l.take v))) (Same.refl H) hp
    refine ⟨_, rfl, sl_le (m := 1) (Nat.le_refl _), fun q hq => ?_⟩
    have s2 := same_new (o := .lst [.int (n : Int)]) s1 hq
    refine ⟨p, q, nv (l.take v), [.int (n : Int)], rfl, rfl, (upd_ne (ne_of_none upd_same hq)).trans upd_same, upd_same, sl_le (m := 9) (by rw [nv_len, List.length_take]; show _ + 1 ≤ 9; omega), fun r hr2 => ?_⟩
    rw [← nv_one]
    have s3 := same_new (o := .lst (nv (l.take v ++ [n]))) s2 hr2
    refine ⟨_, rfl, _, rfl, _, _, rfl, rfl, _, rfl, a, nv l, rfl, s3.seq hs, fun t ht => ?_⟩
    rw [show ((v : Int) + 1) = ((v + 1 : Nat) : Int) from rfl, cut_from]
    have s4 := same_new (o := .lst (nv (l.drop (v + 1)))) s3 ht
    refine ⟨r, t, nv (l.take v ++ [n]), nv (l.drop (v + 1)), rfl, rfl, (upd_ne (ne_of_none upd_same ht)).trans upd_same, upd_same, sl_le (m := 20) (by rw [nv_len, nv_len, List.length_append, List.length_take, List.length_drop, List.length_singleton]; omega), fun u hu => ?_⟩
    rw [← nv_append, set_cut hv]
    exact k _ u (same_new s4 hu) (s4.free hu) upd_same
/-! #### behind -/
def spBehind (K : PySem.W.Frag) (C : Addr) : Sp := fun vs H Q _ => ∃ (p dx a : Addr) (o : Kp126.Node) (ch : Nat) (l : List Nat), vs = [.ref p, .ref a] ∧ H p = some (.ins C dx (stF o ch)) ∧ SqL K H a (nv l) ∧ l.length ≤ 8 ∧ Kp126.okNode l.length o = true ∧ RetL (nv (bh o ch l)) H Q
theorem scBehind : FnScope ["step", "held"] ["step", "held"] (defScope sBehind) := ⟨rfl, rfl, rfl, by decide +kernel, rfl, by decide +kernel, by decide +kernel⟩
theorem okBehind {f : Addr} {fd : FuncData} (F : Fun K "behind" "behind" sBehind f fd) (g_ANY : IntC mg "ANY" (1)) (g_PUT : IntC mg "PUT" (2)) (g_COPY : IntC mg "COPY" (3)) (n_list : mg "list" = none) (c_with_place : Callee P w K mg base "with_place" 3 ["held", "variable", "place"] (spWithPlace K)) (c_with_number : Callee P w K mg base "with_number" 1 ["held", "variable", "number"] (spWithNumber K)) (T : StepTxt K C) : FnOk P w K mg base CX0 4 f fd ["step", "held"] (spBehind K C) := by
  refine F.ok scBehind (fun vs H Q E h => ?_) (fun cdv A outer s H vs Q E hr h => ?_)
  · obtain ⟨p, dx, a, o, ch, l, rfl, hp, hs, hl, ok, k⟩ := h
    rfl
  · obtain ⟨p, dx, a, o, ch, l, rfl, hp, hs, hl, ok, k⟩ := h
    refine ⟨_, (pss_cons (ps_if (pt_cmpR op_eq (pe_fld (pv 0) rfl) (pe_const g_ANY) (nomark _)) (pss_one (ps_ret (pe_go c_with_place (hr.mono (by decide)) (pa_cons (pv 1) (pa_cons (pe_fld (pv 0) rfl) (pa_cons (pe_fld (pv 0) rfl) pa_nil)))))) pss_nil) (pss_cons (ps_if (pt_cmpR op_eq (pe_fld (pv 0) rfl) (pe_const g_PUT) (nomark _)) (pss_one (ps_ret (pe_go c_with_number (hr.mono (by decide)) (pa_cons (pv 1) (pa_cons (pe_fld (pv 0) rfl) (pa_cons (pe_fld (pv 0) rfl) pa_nil)))))) pss_nil) (pss_cons (ps_if (pt_cmpR op_eq (pe_fld (pv 0) rfl) (pe_const g_COPY) (nomark _)) (pss_one (ps_ret (pe_go c_with_number (hr.mono (by decide)) (pa_cons (pv 1) (pa_cons (pe_fld (pv 0) rfl) (pa_cons (pe_ix ix_list (pv 1) (pe_fld (pv 0) rfl) (fun _ _ => rfl)) pa_nil)))))) pss_nil) (pss_one (ps_ret (pe_callTy call_list_of rfl n_list Pv.boot_list (pa_cons (pv 1) pa_nil))))))), ?_⟩
    obtain ⟨hv, hw⟩ := ok_named ok
    refine ⟨_, rfl, p, C, dx, _, _, rfl, hp, T.cl, T.nK, lk_kind o ch, rfl, _, rfl, ?_⟩
    rw [show decide (V.int (o.kind : Nat) = V.int 1) = (o.kind == 1) from int_eq_nat o.kind 1]
    by_cases k1 : o.kind = 1
    · rw [show (o.kind == 1) = true by rw [k1]; rfl]
      rw [bh_1 k1] at k
      exact iteT ⟨_, rfl, _, rfl, p, C, dx, _, _, rfl, hp, T.cl, T.nV, lk_v o ch, _, rfl, p, C, dx, _, _, rfl, hp, T.cl, T.nH, lk_choice o ch, a, l, o.v, ch, rfl, hs, hl, k⟩
    · rw [show (o.kind == 1) = false from beq_eq_false_iff_ne.mpr k1]
      refine iteF ⟨_, rfl, p, C, dx, _, _, rfl, hp, T.cl, T.nK, lk_kind o ch, rfl, _, rfl, ?_⟩
      rw [show decide (V.int (o.kind : Nat) = V.int 2) = (o.kind == 2) from int_eq_nat o.kind 2]
      by_cases k2 : o.kind = 2
      · rw [show (o.kind == 2) = true by rw [k2]; rfl]
        rw [bh_2 k2] at k
        exact iteT ⟨_, rfl, _, rfl, p, C, dx, _, _, rfl, hp, T.cl, T.nV, lk_v o ch, _, rfl, p, C, dx, _, _, rfl, hp, T.cl, T.nC, lk_c o ch, a, l, o.v, o.c, rfl, hs, hl, hv (by omega), k⟩
      · rw [show (o.kind == 2) = false from beq_eq_false_iff_ne.mpr k2]
        refine iteF ⟨_, rfl, p, C, dx, _, _, rfl, hp, T.cl, T.nK, lk_kind o ch, rfl, _, rfl, ?_⟩
        rw [show decide (V.int (o.kind : Nat) = V.int 3) = (o.kind == 3) from int_eq_nat o.kind 3]
        by_cases k3 : o.kind = 3
        · rw [show (o.kind == 3) = true by rw [k3]; rfl]
          rw [bh_3 k3] at k
          refine iteT ⟨_, rfl, _, rfl, p, C, dx, _, _, rfl, hp, T.cl, T.nV, lk_v o ch, _, rfl, _, rfl, p, C, dx, _, _, rfl, hp, T.cl, T.nW, lk_w o ch, a, nv l, _, .int (Kp126.held l o.w : Nat), rfl, rfl, hs, at_of rfl ?_, a, l, o.v, Kp126.held l o.w, rfl, hs, hl, hv (by omega), k⟩
          rw [List.getElem?_map, held_get (hw (.inl k3))]
          rfl
        · rw [show (o.kind == 3) = false from beq_eq_false_iff_ne.mpr k3]
          rw [bh_else k1 k2 k3] at k
          exact iteF ⟨_, rfl, a, nv l, rfl, .inl hs, fun q hq => k _ q (same_new (Same.refl H) hq) hq upd_same⟩
/-! #### shape_behind -/
def spShapeBehind (K : PySem.W.Frag) (C : Addr) : Sp := fun vs H Q _ => ∃ (p dx a : Addr) (o : Kp126.Node) (ch : Nat) (l : List Nat), vs = [.ref p, .ref a] ∧ H p = some (.ins C dx (stF o ch)) ∧ SqL K H a (nv l) ∧ l.length ≤ 8 ∧ Kp126.okNode l.length o = true ∧ Kp126.shapeOf l = l ∧ RetL (nv (Kp126.step o ch l).2) H Q
theorem scShapeBehind : FnScope ["step", "held"] ["step", "held"] (defScope sShapeBehind) := ⟨rfl, rfl, rfl, by decide +kernel, rfl, by decide +kernel, by decide +kernel⟩
theorem okShapeBehind {f : Addr} {fd : FuncData} (F : Fun K "shape_behind" "shape_behind" sShapeBehind f fd) (c_shape_of : Callee P w K mg base "shape_of" 3 ["numbers"] (spShapeOf K)) (c_behind : Callee P w K mg base "behind" 4 ["step", "held"] (spBehind K C)) : FnOk P w K mg base CX0 5 f fd ["step", "held"] (spShapeBehind K C) := by
  refine F.ok scShapeBehind (fun vs H Q E h => ?_) (fun cdv A outer s H vs Q E hr h => ?_)
  · obtain ⟨p, dx, a, o, ch, l, rfl, hp, hs, hl, ok, sh, k⟩ := h
    rfl
  · obtain ⟨p, dx, a, o, ch, l, rfl, hp, hs, hl, ok, sh, k⟩ := h
    refine ⟨_, (pss_one (ps_ret (pe_go c_shape_of (hr.mono (by decide)) (pa_cons (pe_go c_behind (hr.mono (by decide)) (pa_cons (pv 0) (pa_cons (pv 1) pa_nil))) pa_nil)))), ?_⟩
    refine ⟨_, rfl, _, rfl, p, dx, a, o, ch, l, rfl, hp, hs, hl, ok, fun H1 q s1 nq hq => ?_⟩
    rw [step_bh sh] at k
    exact ⟨q, bh o ch l, rfl, SqL.of hq, by rw [bh_len]; exact hl, fun H2 r s2 nr hr2 => k H2 r (s1.trans s2) (s1.free nr) hr2⟩
/-! #### is_so -/
def spIsSo (K : PySem.W.Frag) (C : Addr) : Sp := fun vs H Q _ => ∃ (p dx a : Addr) (o : Kp126.Node) (ch : Nat) (l : List Nat), vs = [.ref p, .ref a] ∧ H p = some (.ins C dx (stF o ch)) ∧ SqL K H a (nv l) ∧ l.length ≤ 8 ∧ Kp126.okNode l.length o = true ∧ RetV (.bl (so o l)) H Q
theorem scIsSo : FnScope ["step", "held"] ["step", "held"] (defScope sIsSo) := ⟨rfl, rfl, rfl, by decide +kernel, rfl, by decide +kernel, by decide +kernel⟩
theorem okIsSo {f : Addr} {fd : FuncData} (F : Fun K "is_so" "is_so" sIsSo f fd) (g_LESS : IntC mg "LESS" (4)) (g_SMALL : IntC mg "SMALL" (5)) (T : StepTxt K C) : FnOk P w K mg base CX0 1 f fd ["step", "held"] (spIsSo K C) := by
  refine F.ok scIsSo (fun vs H Q E h => ?_) (fun cdv A outer s H vs Q E hr h => ?_)
  · obtain ⟨p, dx, a, o, ch, l, rfl, hp, hs, hl, ok, k⟩ := h
    rfl
  · obtain ⟨p, dx, a, o, ch, l, rfl, hp, hs, hl, ok, k⟩ := h
    refine ⟨_, (pss_cons (ps_if (pt_cmpR op_eq (pe_fld (pv 0) rfl) (pe_const g_LESS) (nomark _)) (pss_one (ps_ret (pe_cmpR op_lt (pe_ix ix_list (pv 1) (pe_fld (pv 0) rfl) (fun _ _ => rfl)) (pe_ix ix_list (pv 1) (pe_fld (pv 0) rfl) (fun _ _ => rfl)) (nomark _)))) pss_nil) (pss_one (ps_ret (pe_or (pe_cmpR op_ne (pe_fld (pv 0) rfl) (pe_const g_SMALL) (nomark _)) (pe_one (pe_cmpR op_lt (pe_ix ix_list (pv 1) (pe_fld (pv 0) rfl) (fun _ _ => rfl)) (pe_fld (pv 0) rfl) (nomark _))))))), ?_⟩
    obtain ⟨hv, hw⟩ := ok_named ok
    have q := k H (Same.refl H)
    refine ⟨_, rfl, p, C, dx, _, _, rfl, hp, T.cl, T.nK, lk_kind o ch, rfl, _, rfl, ?_⟩
    rw [show decide (V.int (o.kind : Nat) = V.int 4) = (o.kind == 4) from int_eq_nat o.kind 4]
    by_cases k4 : o.kind = 4
    · rw [show (o.kind == 4) = true by rw [k4]; rfl]
      rw [show so o l = decide (Kp126.held l o.v < Kp126.held l o.w) from if_pos k4, ← lt_nat] at q
      exact iteT ⟨_, rfl, _, rfl, p, C, dx, _, _, rfl, hp, T.cl, T.nV, lk_v o ch, a, nv l, _, .int (Kp126.held l o.v : Nat), rfl, rfl, hs, at_of rfl (by rw [List.getElem?_map, held_get (hv (by omega))]; rfl), _, rfl, _, rfl, p, C, dx, _, _, rfl, hp, T.cl, T.nW, lk_w o ch, a, nv l, _, .int (Kp126.held l o.w : Nat), rfl, rfl, hs, at_of rfl (by rw [List.getElem?_map, held_get (hw (.inr k4))]; rfl), _, _, rfl, rfl, q⟩
    · rw [show (o.kind == 4) = false from beq_eq_false_iff_ne.mpr k4]
      rw [show so o l = (o.kind != 5 || decide (Kp126.held l o.v < o.c)) from if_neg k4] at q
      refine iteF ⟨_, rfl, p, C, dx, _, _, rfl, hp, T.cl, T.nK, lk_kind o ch, rfl, _, rfl, ?_⟩
      rw [show decide (V.int (o.kind : Nat) = V.int 5) = (o.kind == 5) from int_eq_nat o.kind 5]
      cases e5 : (o.kind == 5) with
      | false =>
        rw [show (o.kind != 5) = true by show (!(o.kind == 5)) = true; rw [e5]; rfl] at q
        exact iteT q
      | true =>
        rw [show (o.kind != 5) = false by show (!(o.kind == 5)) = false; rw [e5]; rfl, ← lt_nat] at q
        have k5 := beq_iff_eq.mp e5
        exact iteF ⟨_, rfl, _, rfl, p, C, dx, _, _, rfl, hp, T.cl, T.nV, lk_v o ch, a, nv l, _, .int (Kp126.held l o.v : Nat), rfl, rfl, hs, at_of rfl (by rw [List.getElem?_map, held_get (hv (by omega))]; rfl), _, rfl, p, C, dx, _, _, rfl, hp, T.cl, T.nC, lk_c o ch, _, _, rfl, rfl, q⟩
/-! #### answer_of -/
def spAnswerOf (K : PySem.W.Frag) (C : Addr) : Sp := fun vs H Q _ => ∃ (p dx a : Addr) (o : Kp126.Node) (ch : Nat) (l : List Nat), vs = [.ref p, .ref a] ∧ H p = some (.ins C dx (stF o ch)) ∧ SqL K H a (nv l) ∧ l.length ≤ 8 ∧ Kp126.okNode l.length o = true ∧ RetV (.int ((Kp126.step o ch l).1 : Nat)) H Q
theorem scAnswerOf : FnScope ["step", "held"] ["step", "held"] (defScope sAnswerOf) := ⟨rfl, rfl, rfl, by decide +kernel, rfl, by decide +kernel, by decide +kernel⟩
theorem okAnswerOf {f : Addr} {fd : FuncData} (F : Fun K "answer_of" "answer_of" sAnswerOf f fd) (g_END : IntC mg "END" (0)) (g_ENDED : IntC mg "ENDED" (2)) (g_DONE : IntC mg "DONE" (0)) (g_IS_NOT : IntC mg "IS_NOT" (1)) (c_is_so : Callee P w K mg base "is_so" 1 ["step", "held"] (spIsSo K C)) (T : StepTxt K C) : FnOk P w K mg base CX0 2 f fd ["step", "held"] (spAnswerOf K C) := by
  refine F.ok scAnswerOf (fun vs H Q E h => ?_) (fun cdv A outer s H vs Q E hr h => ?_)
  · obtain ⟨p, dx, a, o, ch, l, rfl, hp, hs, hl, ok, k⟩ := h
    rfl
  · obtain ⟨p, dx, a, o, ch, l, rfl, hp, hs, hl, ok, k⟩ := h
    refine ⟨_, (pss_cons (ps_if (pt_cmpR op_eq (pe_fld (pv 0) rfl) (pe_const g_END) (nomark _)) (pss_one (ps_ret (pe_const g_ENDED))) pss_nil) (pss_one (ps_ret (pe_ifExp (pt_val (pe_go c_is_so (hr.mono (by decide)) (pa_cons (pv 0) (pa_cons (pv 1) pa_nil)))) (pe_const g_DONE) (pe_const g_IS_NOT))))), ?_⟩
    rw [step_ans] at k
    refine ⟨_, rfl, p, C, dx, _, _, rfl, hp, T.cl, T.nK, lk_kind o ch, rfl, _, rfl, ?_⟩
    rw [show decide (V.int (o.kind : Nat) = V.int 0) = (o.kind == 0) from int_eq_nat o.kind 0]
    by_cases k0 : o.kind = 0
    · rw [show (o.kind == 0) = true by rw [k0]; rfl]
      rw [if_pos k0] at k
      exact iteT (k H (Same.refl H))
    · rw [show (o.kind == 0) = false from beq_eq_false_iff_ne.mpr k0]
      rw [if_neg k0] at k
      refine iteF ⟨_, rfl, _, rfl, p, dx, a, o, ch, l, rfl, hp, hs, hl, ok, fun H1 s1 => ⟨_, rfl, ?_⟩⟩
      cases e : so o l with
      | true =>
        rw [e, if_pos rfl] at k
        exact iteT (k H1 s1)
      | false =>
        rw [e, if_neg Bool.false_ne_true] at k
        exact iteF (k H1 s1)
/-! #### ts_step -/
def spTsStep (K : PySem.W.Frag) : Sp := fun vs H Q _ => ∃ (at_ : Addr) (n z ch : Nat) (o : Kp126.Node) (l : List Nat), vs = [.int (n : Int), .int (o.kind : Nat), .int (o.v : Nat), .int (o.w : Nat), .int (o.c : Nat), .int (o.a : Nat), .int (o.b : Nat), .int (o.none_ : Nat), .int (ch : Int), .int (z : Int), .ref at_] ∧
  SqL K H at_ (nv l) ∧ l.length = 3 ∧ Due (Kp126.answer (.step n o ch ⟨l, z⟩)) Q
theorem scTsStep : FnScope ["variables", "kind", "v", "w", "c", "a", "b", "step_none", "choice", "shape_none", "at", "held", "step"] ["variables", "kind", "v", "w", "c", "a", "b", "step_none", "choice", "shape_none", "at"] (defScope sTsStep) := ⟨rfl, rfl, rfl, by decide +kernel, rfl, by decide +kernel, by decide +kernel⟩
theorem okTsStep {f : Addr} {fd : FuncData} (F : Fun K "ts_step" "ts_step" sTsStep f fd) (c_is_many : Callee P w K mg base "is_many" 1 ["variables"] (spIsMany)) (c_is_right : Callee P w K mg base "is_right" 4 ["variables", "at", "none"] (spIsRight K)) (c_refused : Callee P w K mg base "refused" 2 [] (spRefused)) (c_is_as_told : Callee P w K mg base "is_as_told" 5 ["step", "held"] (spIsAsTold K C)) (c_with_shape : Callee P w K mg base "with_shape" 1 ["number", "at"] (spWithShape K)) (c_answer_of : Callee P w K mg base "answer_of" 2 ["step", "held"] (spAnswerOf K C)) (c_filled : Callee P w K mg base "filled" 1 ["held"] (spFilled K)) (c_shape_behind : Callee P w K mg base "shape_behind" 5 ["step", "held"] (spShapeBehind K C)) (c_Step : Maker P w K mg base C 1 ["self", "kind", "v", "w", "c", "none", "choice"] (spInit C)) (g_Step : mg "Step" = some (.ref C)) : FnOk P w K mg base CX0 6 f fd ["variables", "kind", "v", "w", "c", "a", "b", "step_none", "choice", "shape_none", "at"] (spTsStep K) := by
  refine F.ok scTsStep (fun vs H Q E h => ?_) (fun cdv A outer s H vs Q E hr h => ?_)
  · obtain ⟨a, n, z, ch, o, l, rfl, hs, hl, k⟩ := h
    rfl
  · obtain ⟨a, n, z, ch, o, l, rfl, hs, hl, k⟩ := h
    refine ⟨_, (pss_cons (ps_if (PW.pt (pw_or (pt_not (pt_val (pe_go c_is_many (hr.mono (by decide)) (pa_cons (pv 0) pa_nil)))) (pw_or1 (pt_not (pt_val (pe_go c_is_right (hr.mono (by decide)) (pa_cons (pv 0) (pa_cons (pv 10) (pa_cons (pv 9) pa_nil))))))))) (pss_one (ps_ret (pe_go0 c_refused (hr.mono (by decide))))) pss_nil) (pss_cons (ps_set (i := 11) scTsStep.nd rfl (Or.inl rfl) (pe_slice sl_list (pv 10) po_none (po_some (pv 0)))) (pss_cons (ps_set (i := 12) scTsStep.nd rfl (Or.inl rfl) (pe_new c_Step (hr.mono (by decide)) g_Step (pa_cons (pv 1) (pa_cons (pv 2) (pa_cons (pv 3) (pa_cons (pv 4) (pa_cons (pv 7) (pa_cons (pv 8) pa_nil)))))))) (pss_cons (ps_if (pt_not (pt_val (pe_go c_is_as_told (hr.mono (by decide)) (pa_cons (pv 12) (pa_cons (pv 11) pa_nil))))) (pss_one (ps_ret (pe_go0 c_refused (hr.mono (by decide))))) pss_nil) (pss_one (ps_ret (pe_go c_with_shape (hr.mono (by decide)) (pa_cons (pe_go c_answer_of (hr.mono (by decide)) (pa_cons (pv 12) (pa_cons (pv 11) pa_nil))) (pa_cons (pe_go c_filled (hr.mono (by decide)) (pa_cons (pe_go c_shape_behind (hr.mono (by decide)) (pa_cons (pv 12) (pa_cons (pv 11) pa_nil))) pa_nil)) pa_nil))))))))), ?_⟩
    have no : (Kp126.okVars n = false ∨ Kp126.okNode n o = false ∨ Kp126.rightRaw n ⟨l, z⟩ = false) → Kp126.answer (.step n o ch ⟨l, z⟩) = .num (-22) := fun h => if_pos h
    refine ⟨_, rfl, n, rfl, fun H1 s1 => ⟨_, rfl, ?_⟩⟩
    cases ok : Kp126.okVars n with
    | false => exact iteT (iteT ⟨rfl, fun H2 p s2 np hp => k.num (no (.inl ok)) hp⟩)
    | true =>
      refine iteF ⟨_, rfl, _, rfl, _, rfl, a, n, z, l, rfl, s1.seq hs, hl, ok, fun H2 s2 => ⟨_, rfl, ?_⟩⟩
      cases rt : Kp126.rightRaw n ⟨l, z⟩ with
      | false => exact iteT ⟨rfl, fun H3 p s3 np hp => k.num (no (.inr (.inr rt))) hp⟩
      | true =>
        obtain ⟨n1, n3⟩ := ok_vars ok
        obtain ⟨len, sh⟩ := right_shape rt
        refine iteF ⟨_, rfl, _, rfl, _, rfl, a, nv l, rfl, s2.seq (s1.seq hs), fun h hh => ?_⟩
        rw [cut_to]
        generalize hm : l.take n = m at len sh
        refine ⟨_, rfl, _, rfl, _, rfl, _, rfl, _, rfl, _, rfl, ?_⟩
        intro x dx nx nd ne
        refine ⟨x, dx, o, ch, rfl, upd_same, fun H3 hx3 keep => ⟨rfl, ?_⟩⟩
        have s3 := Same.made nx nd keep
        have hh3 : H3 h = some (.lst (nv m)) := s3 _ _ upd_same
        refine ⟨_, rfl, _, rfl, x, dx, h, o, ch, m, rfl, hx3, SqL.of hh3, by omega, fun H4 s4 => ⟨_, rfl, ?_⟩⟩
        rw [len]
        cases on : Kp126.okNode n o with
        | false => exact iteT ⟨rfl, fun H5 p s5 np hp => k.num (no (.inr (.inl on))) hp⟩
        | true =>
          have yes : Kp126.answer (.step n o ch ⟨l, z⟩) = if Kp126.okChoice o ch m = false then .num (-22) else .shape (Kp126.step o ch m).1 (Kp126.rawOf (Kp126.step o ch m).2) := by
            subst hm
            exact if_neg (by rw [ok, on, rt]; simp)
          cases oc : Kp126.okChoice o ch m with
          | false => exact iteT ⟨rfl, fun H5 p s5 np hp => k.num (yes.trans (if_pos oc)) hp⟩
          | true =>
            have on' : Kp126.okNode m.length o = true := by rw [len]; exact on
            refine iteF ⟨_, rfl, _, rfl, x, dx, h, o, ch, m, rfl, s4 _ _ hx3, SqL.of (s4 _ _ hh3), by omega, on', fun H5 s5 => ?_⟩
            refine ⟨_, rfl, _, rfl, x, dx, h, o, ch, m, rfl, s5 _ _ (s4 _ _ hx3), SqL.of (s5 _ _ (s4 _ _ hh3)), by omega, on', sh, fun H6 p s6 np hp => ?_⟩
            have few : (Kp126.step o ch m).2.length ≤ 3 := by rw [step_bh sh]; unfold Kp126.shapeOf; rw [List.length_map, bh_len]; omega
            refine ⟨p, _, rfl, SqL.of hp, few, fun H7 q s7 nq hq => ?_⟩
            refine ⟨q, _, _, rfl, SqL.of hq, by rw [List.length_append, List.length_replicate]; omega, fun H8 r s8 nr hr8 => ?_⟩
            exact k.shape (yes.trans (if_neg (by rw [oc]; exact Bool.noConfusion))) hr8
end
theorem all_mk {P : Program} {w : World} {K : PySem.W.Frag} {h : Heap} {mg : Str → Option Value} {fa C f_number_alone f_refused f_with_shape f_filled f_is_great f_great_ones f_how_many_less f_told_as f_shape_of f_is_many f_is_right f_others_than f_how_many_places f_spread f_with_place f___init__ f_are_variables f_is_number f_is_choice f_is_as_told f_with_number f_behind f_shape_behind f_is_so f_answer_of f_ts_step : Addr} (X : K.In h) (G : h.Ns mainGlobals mg) (hfa : mg "ts_step" = some (.ref fa))
    {od_number_alone an_number_alone : Option Addr} {sl_number_alone : Array (Option Value)} {oc_number_alone kV_number_alone dc_number_alone pm_number_alone cd_number_alone ct_number_alone : Value}
    {od_refused an_refused : Option Addr} {sl_refused : Array (Option Value)} {oc_refused kV_refused dc_refused pm_refused cd_refused ct_refused : Value}
    {od_with_shape an_with_shape : Option Addr} {sl_with_shape : Array (Option Value)} {oc_with_shape kV_with_shape dc_with_shape pm_with_shape cd_with_shape ct_with_shape : Value}
    {od_filled an_filled : Option Addr} {sl_filled : Array (Option Value)} {oc_filled kV_filled dc_filled pm_filled cd_filled ct_filled : Value}
    {od_is_great an_is_great : Option Addr} {sl_is_great : Array (Option Value)} {oc_is_great kV_is_great dc_is_great pm_is_great cd_is_great ct_is_great : Value}
    {od_great_ones an_great_ones : Option Addr} {sl_great_ones : Array (Option Value)} {oc_great_ones kV_great_ones dc_great_ones pm_great_ones cd_great_ones ct_great_ones : Value}
    {od_how_many_less an_how_many_less : Option Addr} {sl_how_many_less : Array (Option Value)} {oc_how_many_less kV_how_many_less dc_how_many_less pm_how_many_less cd_how_many_less ct_how_many_less : Value}
    {od_told_as an_told_as : Option Addr} {sl_told_as : Array (Option Value)} {oc_told_as kV_told_as dc_told_as pm_told_as cd_told_as ct_told_as : Value}
    {od_shape_of an_shape_of : Option Addr} {sl_shape_of : Array (Option Value)} {oc_shape_of kV_shape_of dc_shape_of pm_shape_of cd_shape_of ct_shape_of : Value}
    {od_is_many an_is_many : Option Addr} {sl_is_many : Array (Option Value)} {oc_is_many kV_is_many dc_is_many pm_is_many cd_is_many ct_is_many : Value}
    {od_is_right an_is_right : Option Addr} {sl_is_right : Array (Option Value)} {oc_is_right kV_is_right dc_is_right pm_is_right cd_is_right ct_is_right : Value}
    {od_others_than an_others_than : Option Addr} {sl_others_than : Array (Option Value)} {oc_others_than kV_others_than dc_others_than pm_others_than cd_others_than ct_others_than : Value}
    {od_how_many_places an_how_many_places : Option Addr} {sl_how_many_places : Array (Option Value)} {oc_how_many_places kV_how_many_places dc_how_many_places pm_how_many_places cd_how_many_places ct_how_many_places : Value}
    {od_spread an_spread : Option Addr} {sl_spread : Array (Option Value)} {oc_spread kV_spread dc_spread pm_spread cd_spread ct_spread : Value}
    {od_with_place an_with_place : Option Addr} {sl_with_place : Array (Option Value)} {oc_with_place kV_with_place dc_with_place pm_with_place cd_with_place ct_with_place : Value}
    {od___init__ an___init__ : Option Addr} {sl___init__ : Array (Option Value)} {oc___init__ kV___init__ dc___init__ pm___init__ cd___init__ ct___init__ : Value}
    {od_are_variables an_are_variables : Option Addr} {sl_are_variables : Array (Option Value)} {oc_are_variables kV_are_variables dc_are_variables pm_are_variables cd_are_variables ct_are_variables : Value}
    {od_is_number an_is_number : Option Addr} {sl_is_number : Array (Option Value)} {oc_is_number kV_is_number dc_is_number pm_is_number cd_is_number ct_is_number : Value}
    {od_is_choice an_is_choice : Option Addr} {sl_is_choice : Array (Option Value)} {oc_is_choice kV_is_choice dc_is_choice pm_is_choice cd_is_choice ct_is_choice : Value}
    {od_is_as_told an_is_as_told : Option Addr} {sl_is_as_told : Array (Option Value)} {oc_is_as_told kV_is_as_told dc_is_as_told pm_is_as_told cd_is_as_told ct_is_as_told : Value}
    {od_with_number an_with_number : Option Addr} {sl_with_number : Array (Option Value)} {oc_with_number kV_with_number dc_with_number pm_with_number cd_with_number ct_with_number : Value}
    {od_behind an_behind : Option Addr} {sl_behind : Array (Option Value)} {oc_behind kV_behind dc_behind pm_behind cd_behind ct_behind : Value}
    {od_shape_behind an_shape_behind : Option Addr} {sl_shape_behind : Array (Option Value)} {oc_shape_behind kV_shape_behind dc_shape_behind pm_shape_behind cd_shape_behind ct_shape_behind : Value}
    {od_is_so an_is_so : Option Addr} {sl_is_so : Array (Option Value)} {oc_is_so kV_is_so dc_is_so pm_is_so cd_is_so ct_is_so : Value}
    {od_answer_of an_answer_of : Option Addr} {sl_answer_of : Array (Option Value)} {oc_answer_of kV_answer_of dc_answer_of pm_answer_of cd_answer_of ct_answer_of : Value}
    {od_ts_step an_ts_step : Option Addr} {sl_ts_step : Array (Option Value)} {oc_ts_step kV_ts_step dc_ts_step pm_ts_step cd_ts_step ct_ts_step : Value}
    {t_NOT_SO : Tok}
    {t_MANY_AT : Tok}
    {t_SMALLEST_GREAT : Tok}
    {t_MOST_VARIABLES : Tok}
    {t_FIRST_AT_ONE : Tok}
    {t_APART : Tok}
    {t_END : Tok}
    {t_ANY : Tok}
    {t_PUT : Tok}
    {t_COPY : Tok}
    {t_LESS : Tok}
    {t_SMALL : Tok}
    {t_TELL : Tok}
    {t_DONE : Tok}
    {t_IS_NOT : Tok}
    {t_ENDED : Tok}
   
    (aC : PySem.W.nsIn K mainGlobals "Step" = some (some (.ref C)))
    (a_number_alone : PySem.W.nsIn K mainGlobals "number_alone" = some (some (.ref f_number_alone)))
    (l_number_alone : K.lookup f_number_alone = some ⟨oc_number_alone, od_number_alone, .func (PySem.W.fnOf "number_alone" "number_alone" (defArgs sNumberAlone) (defBody sNumberAlone) (defScope sNumberAlone) .none kV_number_alone dc_number_alone pm_number_alone an_number_alone cd_number_alone ct_number_alone), sl_number_alone⟩)
    (c_number_alone : PySem.W.codeIn K cd_number_alone "number_alone" = true) (k_number_alone : PySem.W.keepIn K (.ref f_number_alone) = true)
    (a_refused : PySem.W.nsIn K mainGlobals "refused" = some (some (.ref f_refused)))
    (l_refused : K.lookup f_refused = some ⟨oc_refused, od_refused, .func (PySem.W.fnOf "refused" "refused" (defArgs sRefused) (defBody sRefused) (defScope sRefused) .none kV_refused dc_refused pm_refused an_refused cd_refused ct_refused), sl_refused⟩)
    (c_refused : PySem.W.codeIn K cd_refused "refused" = true) (k_refused : PySem.W.keepIn K (.ref f_refused) = true)
    (a_with_shape : PySem.W.nsIn K mainGlobals "with_shape" = some (some (.ref f_with_shape)))
    (l_with_shape : K.lookup f_with_shape = some ⟨oc_with_shape, od_with_shape, .func (PySem.W.fnOf "with_shape" "with_shape" (defArgs sWithShape) (defBody sWithShape) (defScope sWithShape) .none kV_with_shape dc_with_shape pm_with_shape an_with_shape cd_with_shape ct_with_shape), sl_with_shape⟩)
    (c_with_shape : PySem.W.codeIn K cd_with_shape "with_shape" = true) (k_with_shape : PySem.W.keepIn K (.ref f_with_shape) = true)
    (a_filled : PySem.W.nsIn K mainGlobals "filled" = some (some (.ref f_filled)))
    (l_filled : K.lookup f_filled = some ⟨oc_filled, od_filled, .func (PySem.W.fnOf "filled" "filled" (defArgs sFilled) (defBody sFilled) (defScope sFilled) .none kV_filled dc_filled pm_filled an_filled cd_filled ct_filled), sl_filled⟩)
    (c_filled : PySem.W.codeIn K cd_filled "filled" = true) (k_filled : PySem.W.keepIn K (.ref f_filled) = true)
    (a_is_great : PySem.W.nsIn K mainGlobals "is_great" = some (some (.ref f_is_great)))
    (l_is_great : K.lookup f_is_great = some ⟨oc_is_great, od_is_great, .func (PySem.W.fnOf "is_great" "is_great" (defArgs sIsGreat) (defBody sIsGreat) (defScope sIsGreat) .none kV_is_great dc_is_great pm_is_great an_is_great cd_is_great ct_is_great), sl_is_great⟩)
    (c_is_great : PySem.W.codeIn K cd_is_great "is_great" = true) (k_is_great : PySem.W.keepIn K (.ref f_is_great) = true)
    (a_great_ones : PySem.W.nsIn K mainGlobals "great_ones" = some (some (.ref f_great_ones)))
    (l_great_ones : K.lookup f_great_ones = some ⟨oc_great_ones, od_great_ones, .func (PySem.W.fnOf "great_ones" "great_ones" (defArgs sGreatOnes) (defBody sGreatOnes) (defScope sGreatOnes) .none kV_great_ones dc_great_ones pm_great_ones an_great_ones cd_great_ones ct_great_ones), sl_great_ones⟩)
    (c_great_ones : PySem.W.codeIn K cd_great_ones "great_ones" = true) (k_great_ones : PySem.W.keepIn K (.ref f_great_ones) = true)
    (a_how_many_less : PySem.W.nsIn K mainGlobals "how_many_less" = some (some (.ref f_how_many_less)))
    (l_how_many_less : K.lookup f_how_many_less = some ⟨oc_how_many_less, od_how_many_less, .func (PySem.W.fnOf "how_many_less" "how_many_less" (defArgs sHowManyLess) (defBody sHowManyLess) (defScope sHowManyLess) .none kV_how_many_less dc_how_many_less pm_how_many_less an_how_many_less cd_how_many_less ct_how_many_less), sl_how_many_less⟩)
    (c_how_many_less : PySem.W.codeIn K cd_how_many_less "how_many_less" = true) (k_how_many_less : PySem.W.keepIn K (.ref f_how_many_less) = true)
    (a_told_as : PySem.W.nsIn K mainGlobals "told_as" = some (some (.ref f_told_as)))
    (l_told_as : K.lookup f_told_as = some ⟨oc_told_as, od_told_as, .func (PySem.W.fnOf "told_as" "told_as" (defArgs sToldAs) (defBody sToldAs) (defScope sToldAs) .none kV_told_as dc_told_as pm_told_as an_told_as cd_told_as ct_told_as), sl_told_as⟩)
    (c_told_as : PySem.W.codeIn K cd_told_as "told_as" = true) (k_told_as : PySem.W.keepIn K (.ref f_told_as) = true)
    (a_shape_of : PySem.W.nsIn K mainGlobals "shape_of" = some (some (.ref f_shape_of)))
    (l_shape_of : K.lookup f_shape_of = some ⟨oc_shape_of, od_shape_of, .func (PySem.W.fnOf "shape_of" "shape_of" (defArgs sShapeOf) (defBody sShapeOf) (defScope sShapeOf) .none kV_shape_of dc_shape_of pm_shape_of an_shape_of cd_shape_of ct_shape_of), sl_shape_of⟩)
    (c_shape_of : PySem.W.codeIn K cd_shape_of "shape_of" = true) (k_shape_of : PySem.W.keepIn K (.ref f_shape_of) = true)
    (a_is_many : PySem.W.nsIn K mainGlobals "is_many" = some (some (.ref f_is_many)))
    (l_is_many : K.lookup f_is_many = some ⟨oc_is_many, od_is_many, .func (PySem.W.fnOf "is_many" "is_many" (defArgs sIsMany) (defBody sIsMany) (defScope sIsMany) .none kV_is_many dc_is_many pm_is_many an_is_many cd_is_many ct_is_many), sl_is_many⟩)
    (c_is_many : PySem.W.codeIn K cd_is_many "is_many" = true) (k_is_many : PySem.W.keepIn K (.ref f_is_many) = true)
    (a_is_right : PySem.W.nsIn K mainGlobals "is_right" = some (some (.ref f_is_right)))
    (l_is_right : K.lookup f_is_right = some ⟨oc_is_right, od_is_right, .func (PySem.W.fnOf "is_right" "is_right" (defArgs sIsRight) (defBody sIsRight) (defScope sIsRight) .none kV_is_right dc_is_right pm_is_right an_is_right cd_is_right ct_is_right), sl_is_right⟩)
    (c_is_right : PySem.W.codeIn K cd_is_right "is_right" = true) (k_is_right : PySem.W.keepIn K (.ref f_is_right) = true)
    (a_others_than : PySem.W.nsIn K mainGlobals "others_than" = some (some (.ref f_others_than)))
    (l_others_than : K.lookup f_others_than = some ⟨oc_others_than, od_others_than, .func (PySem.W.fnOf "others_than" "others_than" (defArgs sOthersThan) (defBody sOthersThan) (defScope sOthersThan) .none kV_others_than dc_others_than pm_others_than an_others_than cd_others_than ct_others_than), sl_others_than⟩)
    (c_others_than : PySem.W.codeIn K cd_others_than "others_than" = true) (k_others_than : PySem.W.keepIn K (.ref f_others_than) = true)
    (a_how_many_places : PySem.W.nsIn K mainGlobals "how_many_places" = some (some (.ref f_how_many_places)))
    (l_how_many_places : K.lookup f_how_many_places = some ⟨oc_how_many_places, od_how_many_places, .func (PySem.W.fnOf "how_many_places" "how_many_places" (defArgs sHowManyPlaces) (defBody sHowManyPlaces) (defScope sHowManyPlaces) .none kV_how_many_places dc_how_many_places pm_how_many_places an_how_many_places cd_how_many_places ct_how_many_places), sl_how_many_places⟩)
    (c_how_many_places : PySem.W.codeIn K cd_how_many_places "how_many_places" = true) (k_how_many_places : PySem.W.keepIn K (.ref f_how_many_places) = true)
    (a_spread : PySem.W.nsIn K mainGlobals "spread" = some (some (.ref f_spread)))
    (l_spread : K.lookup f_spread = some ⟨oc_spread, od_spread, .func (PySem.W.fnOf "spread" "spread" (defArgs sSpread) (defBody sSpread) (defScope sSpread) .none kV_spread dc_spread pm_spread an_spread cd_spread ct_spread), sl_spread⟩)
    (c_spread : PySem.W.codeIn K cd_spread "spread" = true) (k_spread : PySem.W.keepIn K (.ref f_spread) = true)
    (a_with_place : PySem.W.nsIn K mainGlobals "with_place" = some (some (.ref f_with_place)))
    (l_with_place : K.lookup f_with_place = some ⟨oc_with_place, od_with_place, .func (PySem.W.fnOf "with_place" "with_place" (defArgs sWithPlace) (defBody sWithPlace) (defScope sWithPlace) .none kV_with_place dc_with_place pm_with_place an_with_place cd_with_place ct_with_place), sl_with_place⟩)
    (c_with_place : PySem.W.codeIn K cd_with_place "with_place" = true) (k_with_place : PySem.W.keepIn K (.ref f_with_place) = true)
    (a___init__ : PySem.W.findIn K (.ref C) "__init__" = some (some (.ref f___init__))) (i___init__ : PySem.W.isFn K (.ref f___init__) = true)
    (l___init__ : K.lookup f___init__ = some ⟨oc___init__, od___init__, .func (PySem.W.fnOf "__init__" "Step.__init__" (defArgs sInit) (defBody sInit) (defScope sInit) .none kV___init__ dc___init__ pm___init__ an___init__ cd___init__ ct___init__), sl___init__⟩)
    (c___init__ : PySem.W.codeIn K cd___init__ "Step.__init__" = true) (k___init__ : PySem.W.keepIn K (.ref f___init__) = true)
    (a_are_variables : PySem.W.nsIn K mainGlobals "are_variables" = some (some (.ref f_are_variables)))
    (l_are_variables : K.lookup f_are_variables = some ⟨oc_are_variables, od_are_variables, .func (PySem.W.fnOf "are_variables" "are_variables" (defArgs sAreVariables) (defBody sAreVariables) (defScope sAreVariables) .none kV_are_variables dc_are_variables pm_are_variables an_are_variables cd_are_variables ct_are_variables), sl_are_variables⟩)
    (c_are_variables : PySem.W.codeIn K cd_are_variables "are_variables" = true) (k_are_variables : PySem.W.keepIn K (.ref f_are_variables) = true)
    (a_is_number : PySem.W.nsIn K mainGlobals "is_number" = some (some (.ref f_is_number)))
    (l_is_number : K.lookup f_is_number = some ⟨oc_is_number, od_is_number, .func (PySem.W.fnOf "is_number" "is_number" (defArgs sIsNumber) (defBody sIsNumber) (defScope sIsNumber) .none kV_is_number dc_is_number pm_is_number an_is_number cd_is_number ct_is_number), sl_is_number⟩)
    (c_is_number : PySem.W.codeIn K cd_is_number "is_number" = true) (k_is_number : PySem.W.keepIn K (.ref f_is_number) = true)
    (a_is_choice : PySem.W.nsIn K mainGlobals "is_choice" = some (some (.ref f_is_choice)))
    (l_is_choice : K.lookup f_is_choice = some ⟨oc_is_choice, od_is_choice, .func (PySem.W.fnOf "is_choice" "is_choice" (defArgs sIsChoice) (defBody sIsChoice) (defScope sIsChoice) .none kV_is_choice dc_is_choice pm_is_choice an_is_choice cd_is_choice ct_is_choice), sl_is_choice⟩)
    (c_is_choice : PySem.W.codeIn K cd_is_choice "is_choice" = true) (k_is_choice : PySem.W.keepIn K (.ref f_is_choice) = true)
    (a_is_as_told : PySem.W.nsIn K mainGlobals "is_as_told" = some (some (.ref f_is_as_told)))
    (l_is_as_told : K.lookup f_is_as_told = some ⟨oc_is_as_told, od_is_as_told, .func (PySem.W.fnOf "is_as_told" "is_as_told" (defArgs sIsAsTold) (defBody sIsAsTold) (defScope sIsAsTold) .none kV_is_as_told dc_is_as_told pm_is_as_told an_is_as_told cd_is_as_told ct_is_as_told), sl_is_as_told⟩)
    (c_is_as_told : PySem.W.codeIn K cd_is_as_told "is_as_told" = true) (k_is_as_told : PySem.W.keepIn K (.ref f_is_as_told) = true)
    (a_with_number : PySem.W.nsIn K mainGlobals "with_number" = some (some (.ref f_with_number)))
    (l_with_number : K.lookup f_with_number = some ⟨oc_with_number, od_with_number, .func (PySem.W.fnOf "with_number" "with_number" (defArgs sWithNumber) (defBody sWithNumber) (defScope sWithNumber) .none kV_with_number dc_with_number pm_with_number an_with_number cd_with_number ct_with_number), sl_with_number⟩)
    (c_with_number : PySem.W.codeIn K cd_with_number "with_number" = true) (k_with_number : PySem.W.keepIn K (.ref f_with_number) = true)
    (a_behind : PySem.W.nsIn K mainGlobals "behind" = some (some (.ref f_behind)))
    (l_behind : K.lookup f_behind = some ⟨oc_behind, od_behind, .func (PySem.W.fnOf "behind" "behind" (defArgs sBehind) (defBody sBehind) (defScope sBehind) .none kV_behind dc_behind pm_behind an_behind cd_behind ct_behind), sl_behind⟩)
    (c_behind : PySem.W.codeIn K cd_behind "behind" = true) (k_behind : PySem.W.keepIn K (.ref f_behind) = true)
    (a_shape_behind : PySem.W.nsIn K mainGlobals "shape_behind" = some (some (.ref f_shape_behind)))
    (l_shape_behind : K.lookup f_shape_behind = some ⟨oc_shape_behind, od_shape_behind, .func (PySem.W.fnOf "shape_behind" "shape_behind" (defArgs sShapeBehind) (defBody sShapeBehind) (defScope sShapeBehind) .none kV_shape_behind dc_shape_behind pm_shape_behind an_shape_behind cd_shape_behind ct_shape_behind), sl_shape_behind⟩)
    (c_shape_behind : PySem.W.codeIn K cd_shape_behind "shape_behind" = true) (k_shape_behind : PySem.W.keepIn K (.ref f_shape_behind) = true)
    (a_is_so : PySem.W.nsIn K mainGlobals "is_so" = some (some (.ref f_is_so)))
    (l_is_so : K.lookup f_is_so = some ⟨oc_is_so, od_is_so, .func (PySem.W.fnOf "is_so" "is_so" (defArgs sIsSo) (defBody sIsSo) (defScope sIsSo) .none kV_is_so dc_is_so pm_is_so an_is_so cd_is_so ct_is_so), sl_is_so⟩)
    (c_is_so : PySem.W.codeIn K cd_is_so "is_so" = true) (k_is_so : PySem.W.keepIn K (.ref f_is_so) = true)
    (a_answer_of : PySem.W.nsIn K mainGlobals "answer_of" = some (some (.ref f_answer_of)))
    (l_answer_of : K.lookup f_answer_of = some ⟨oc_answer_of, od_answer_of, .func (PySem.W.fnOf "answer_of" "answer_of" (defArgs sAnswerOf) (defBody sAnswerOf) (defScope sAnswerOf) .none kV_answer_of dc_answer_of pm_answer_of an_answer_of cd_answer_of ct_answer_of), sl_answer_of⟩)
    (c_answer_of : PySem.W.codeIn K cd_answer_of "answer_of" = true) (k_answer_of : PySem.W.keepIn K (.ref f_answer_of) = true)
    (a_ts_step : PySem.W.nsIn K mainGlobals "ts_step" = some (some (.ref f_ts_step)))
    (l_ts_step : K.lookup f_ts_step = some ⟨oc_ts_step, od_ts_step, .func (PySem.W.fnOf "ts_step" "ts_step" (defArgs sTsStep) (defBody sTsStep) (defScope sTsStep) .none kV_ts_step dc_ts_step pm_ts_step an_ts_step cd_ts_step ct_ts_step), sl_ts_step⟩)
    (c_ts_step : PySem.W.codeIn K cd_ts_step "ts_step" = true) (k_ts_step : PySem.W.keepIn K (.ref f_ts_step) = true)
    (g_NOT_SO : PySem.W.nsIn K mainGlobals "NOT_SO" = some (some (.int (-22) t_NOT_SO)))
    (g_MANY_AT : PySem.W.nsIn K mainGlobals "MANY_AT" = some (some (.int (3) t_MANY_AT)))
    (g_SMALLEST_GREAT : PySem.W.nsIn K mainGlobals "SMALLEST_GREAT" = some (some (.int (4) t_SMALLEST_GREAT)))
    (g_MOST_VARIABLES : PySem.W.nsIn K mainGlobals "MOST_VARIABLES" = some (some (.int (3) t_MOST_VARIABLES)))
    (g_FIRST_AT_ONE : PySem.W.nsIn K mainGlobals "FIRST_AT_ONE" = some (some (.int (5) t_FIRST_AT_ONE)))
    (g_APART : PySem.W.nsIn K mainGlobals "APART" = some (some (.int (2) t_APART)))
    (g_END : PySem.W.nsIn K mainGlobals "END" = some (some (.int (0) t_END)))
    (g_ANY : PySem.W.nsIn K mainGlobals "ANY" = some (some (.int (1) t_ANY)))
    (g_PUT : PySem.W.nsIn K mainGlobals "PUT" = some (some (.int (2) t_PUT)))
    (g_COPY : PySem.W.nsIn K mainGlobals "COPY" = some (some (.int (3) t_COPY)))
    (g_LESS : PySem.W.nsIn K mainGlobals "LESS" = some (some (.int (4) t_LESS)))
    (g_SMALL : PySem.W.nsIn K mainGlobals "SMALL" = some (some (.int (5) t_SMALL)))
    (g_TELL : PySem.W.nsIn K mainGlobals "TELL" = some (some (.int (6) t_TELL)))
    (g_DONE : PySem.W.nsIn K mainGlobals "DONE" = some (some (.int (0) t_DONE)))
    (g_IS_NOT : PySem.W.nsIn K mainGlobals "IS_NOT" = some (some (.int (1) t_IS_NOT)))
    (g_ENDED : PySem.W.nsIn K mainGlobals "ENDED" = some (some (.int (2) t_ENDED)))
    (n_any : PySem.W.nsIn K mainGlobals "any" = some none)
    (n_enumerate : PySem.W.nsIn K mainGlobals "enumerate" = some none)
    (n_len : PySem.W.nsIn K mainGlobals "len" = some none)
    (n_list : PySem.W.nsIn K mainGlobals "list" = some none)
    (n_sorted : PySem.W.nsIn K mainGlobals "sorted" = some none)
    (pg : PySem.W.plainGet K C Str.empty = true) (hd : PySem.W.hasDictIn K C = true) (po : PySem.W.plainOver K C = true) (sa : PySem.W.findIn K (.ref C) "__setattr__" = some (some (.builtin "object.__setattr__"))) (mk : PySem.W.makesIn K C = true) (kc : PySem.W.keepIn K (.ref C) = true)
    (x_kind : PySem.W.findIn K (.ref C) "kind" = some none)
    (x_v : PySem.W.findIn K (.ref C) "v" = some none)
    (x_w : PySem.W.findIn K (.ref C) "w" = some none)
    (x_c : PySem.W.findIn K (.ref C) "c" = some none)
    (x_none : PySem.W.findIn K (.ref C) "none" = some none)
    (x_choice : PySem.W.findIn K (.ref C) "choice" = some none)
    : ∃ fd : FuncData, (∀ (s : Shared) (us : List Value), us.length = (["variables", "kind", "v", "w", "c", "a", "b", "step_none", "choice", "shape_none", "at"] : List Str).length → BindsTo s fd ⟨us, []⟩ ((["variables", "kind", "v", "w", "c", "a", "b", "step_none", "choice", "shape_none", "at"] : List Str).zip us)) ∧ ∀ base : Heap, K.In base → base.Ns mainGlobals mg → FnOk P w K mg base CX0 6 fa fd ["variables", "kind", "v", "w", "c", "a", "b", "step_none", "choice", "shape_none", "at"] (spTsStep K) := by
  have e := hfa.symm.trans (PySem.W.mg_of X G a_ts_step)
  cases e
  have G_NOT_SO : IntC mg "NOT_SO" (-22) := ⟨_, PySem.W.mg_of X G g_NOT_SO⟩
  have G_MANY_AT : IntC mg "MANY_AT" (3) := ⟨_, PySem.W.mg_of X G g_MANY_AT⟩
  have G_SMALLEST_GREAT : IntC mg "SMALLEST_GREAT" (4) := ⟨_, PySem.W.mg_of X G g_SMALLEST_GREAT⟩
  have G_MOST_VARIABLES : IntC mg "MOST_VARIABLES" (3) := ⟨_, PySem.W.mg_of X G g_MOST_VARIABLES⟩
  have G_FIRST_AT_ONE : IntC mg "FIRST_AT_ONE" (5) := ⟨_, PySem.W.mg_of X G g_FIRST_AT_ONE⟩
  have G_APART : IntC mg "APART" (2) := ⟨_, PySem.W.mg_of X G g_APART⟩
  have G_END : IntC mg "END" (0) := ⟨_, PySem.W.mg_of X G g_END⟩
  have G_ANY : IntC mg "ANY" (1) := ⟨_, PySem.W.mg_of X G g_ANY⟩
  have G_PUT : IntC mg "PUT" (2) := ⟨_, PySem.W.mg_of X G g_PUT⟩
  have G_COPY : IntC mg "COPY" (3) := ⟨_, PySem.W.mg_of X G g_COPY⟩
  have G_LESS : IntC mg "LESS" (4) := ⟨_, PySem.W.mg_of X G g_LESS⟩
  have G_SMALL : IntC mg "SMALL" (5) := ⟨_, PySem.W.mg_of X G g_SMALL⟩
  have G_TELL : IntC mg "TELL" (6) := ⟨_, PySem.W.mg_of X G g_TELL⟩
  have G_DONE : IntC mg "DONE" (0) := ⟨_, PySem.W.mg_of X G g_DONE⟩
  have G_IS_NOT : IntC mg "IS_NOT" (1) := ⟨_, PySem.W.mg_of X G g_IS_NOT⟩
  have G_ENDED : IntC mg "ENDED" (2) := ⟨_, PySem.W.mg_of X G g_ENDED⟩
  have N_any : mg "any" = none := PySem.W.mg_none_of X G n_any
  have N_enumerate : mg "enumerate" = none := PySem.W.mg_none_of X G n_enumerate
  have N_len : mg "len" = none := PySem.W.mg_none_of X G n_len
  have N_list : mg "list" = none := PySem.W.mg_none_of X G n_list
  have N_sorted : mg "sorted" = none := PySem.W.mg_none_of X G n_sorted
  have T : StepTxt K C := ⟨⟨pg, hd, po, sa⟩, x_kind, x_v, x_w, x_c, x_none, x_choice⟩
  have F_number_alone := fun_mk (st := sNumberAlone) l_number_alone c_number_alone k_number_alone
  have b_number_alone := F_number_alone.binds (ps := ["number"]) fun _ _ _ _ _ _ us hl => match us, hl with | [_], _ => rfl
  have K_number_alone : ∀ base : Heap, Callee P w K mg base "number_alone" 1 ["number"] (spNumberAlone) := fun base => ⟨_, _, okNumberAlone F_number_alone, PySem.W.mg_of X G a_number_alone, k_number_alone, b_number_alone⟩
  have F_refused := fun_mk (st := sRefused) l_refused c_refused k_refused
  have b_refused := F_refused.binds (ps := []) fun _ _ _ _ _ _ us hl => match us, hl with | [], _ => rfl
  have K_refused : ∀ base : Heap, Callee P w K mg base "refused" 2 [] (spRefused) := fun base => ⟨_, _, okRefused F_refused G_NOT_SO (K_number_alone base), PySem.W.mg_of X G a_refused, k_refused, b_refused⟩
  have F_with_shape := fun_mk (st := sWithShape) l_with_shape c_with_shape k_with_shape
  have b_with_shape := F_with_shape.binds (ps := ["number", "at"]) fun _ _ _ _ _ _ us hl => match us, hl with | [_, _], _ => rfl
  have K_with_shape : ∀ base : Heap, Callee P w K mg base "with_shape" 1 ["number", "at"] (spWithShape K) := fun base => ⟨_, _, okWithShape F_with_shape N_len N_list, PySem.W.mg_of X G a_with_shape, k_with_shape, b_with_shape⟩
  have F_filled := fun_mk (st := sFilled) l_filled c_filled k_filled
  have b_filled := F_filled.binds (ps := ["held"]) fun _ _ _ _ _ _ us hl => match us, hl with | [_], _ => rfl
  have K_filled : ∀ base : Heap, Callee P w K mg base "filled" 1 ["held"] (spFilled K) := fun base => ⟨_, _, okFilled F_filled G_MANY_AT N_len N_list, PySem.W.mg_of X G a_filled, k_filled, b_filled⟩
  have F_is_great := fun_mk (st := sIsGreat) l_is_great c_is_great k_is_great
  have b_is_great := F_is_great.binds (ps := ["number"]) fun _ _ _ _ _ _ us hl => match us, hl with | [_], _ => rfl
  have K_is_great : ∀ base : Heap, Callee P w K mg base "is_great" 1 ["number"] (spIsGreat) := fun base => ⟨_, _, okIsGreat F_is_great G_SMALLEST_GREAT, PySem.W.mg_of X G a_is_great, k_is_great, b_is_great⟩
  have F_great_ones := fun_mk (st := sGreatOnes) l_great_ones c_great_ones k_great_ones
  have b_great_ones := F_great_ones.binds (ps := ["numbers"]) fun _ _ _ _ _ _ us hl => match us, hl with | [_], _ => rfl
  have K_great_ones : ∀ base : Heap, Callee P w K mg base "great_ones" 2 ["numbers"] (spGreatOnes K) := fun base => ⟨_, _, okGreatOnes F_great_ones N_sorted (K_is_great base), PySem.W.mg_of X G a_great_ones, k_great_ones, b_great_ones⟩
  have F_how_many_less := fun_mk (st := sHowManyLess) l_how_many_less c_how_many_less k_how_many_less
  have b_how_many_less := F_how_many_less.binds (ps := ["numbers", "bound"]) fun _ _ _ _ _ _ us hl => match us, hl with | [_, _], _ => rfl
  have K_how_many_less : ∀ base : Heap, Callee P w K mg base "how_many_less" 1 ["numbers", "bound"] (spHowManyLess K) := fun base => ⟨_, _, okHowManyLess F_how_many_less N_len, PySem.W.mg_of X G a_how_many_less, k_how_many_less, b_how_many_less⟩
  have F_told_as := fun_mk (st := sToldAs) l_told_as c_told_as k_told_as
  have b_told_as := F_told_as.binds (ps := ["number", "great"]) fun _ _ _ _ _ _ us hl => match us, hl with | [_, _], _ => rfl
  have K_told_as : ∀ base : Heap, Callee P w K mg base "told_as" 2 ["number", "great"] (spToldAs K) := fun base => ⟨_, _, okToldAs F_told_as G_SMALLEST_GREAT (K_is_great base) (K_how_many_less base), PySem.W.mg_of X G a_told_as, k_told_as, b_told_as⟩
  have F_shape_of := fun_mk (st := sShapeOf) l_shape_of c_shape_of k_shape_of
  have b_shape_of := F_shape_of.binds (ps := ["numbers"]) fun _ _ _ _ _ _ us hl => match us, hl with | [_], _ => rfl
  have K_shape_of : ∀ base : Heap, Callee P w K mg base "shape_of" 3 ["numbers"] (spShapeOf K) := fun base => ⟨_, _, okShapeOf F_shape_of (K_great_ones base) (K_told_as base), PySem.W.mg_of X G a_shape_of, k_shape_of, b_shape_of⟩
  have F_is_many := fun_mk (st := sIsMany) l_is_many c_is_many k_is_many
  have b_is_many := F_is_many.binds (ps := ["variables"]) fun _ _ _ _ _ _ us hl => match us, hl with | [_], _ => rfl
  have K_is_many : ∀ base : Heap, Callee P w K mg base "is_many" 1 ["variables"] (spIsMany) := fun base => ⟨_, _, okIsMany F_is_many G_MOST_VARIABLES, PySem.W.mg_of X G a_is_many, k_is_many, b_is_many⟩
  have F_is_right := fun_mk (st := sIsRight) l_is_right c_is_right k_is_right
  have b_is_right := F_is_right.binds (ps := ["variables", "at", "none"]) fun _ _ _ _ _ _ us hl => match us, hl with | [_, _, _], _ => rfl
  have K_is_right : ∀ base : Heap, Callee P w K mg base "is_right" 4 ["variables", "at", "none"] (spIsRight K) := fun base => ⟨_, _, okIsRight F_is_right N_any (K_shape_of base), PySem.W.mg_of X G a_is_right, k_is_right, b_is_right⟩
  have F_others_than := fun_mk (st := sOthersThan) l_others_than c_others_than k_others_than
  have b_others_than := F_others_than.binds (ps := ["held", "variable"]) fun _ _ _ _ _ _ us hl => match us, hl with | [_, _], _ => rfl
  have K_others_than : ∀ base : Heap, Callee P w K mg base "others_than" 1 ["held", "variable"] (spOthersThan K) := fun base => ⟨_, _, okOthersThan F_others_than N_enumerate, PySem.W.mg_of X G a_others_than, k_others_than, b_others_than⟩
  have F_how_many_places := fun_mk (st := sHowManyPlaces) l_how_many_places c_how_many_places k_how_many_places
  have b_how_many_places := F_how_many_places.binds (ps := ["held", "variable"]) fun _ _ _ _ _ _ us hl => match us, hl with | [_, _], _ => rfl
  have K_how_many_places : ∀ base : Heap, Callee P w K mg base "how_many_places" 3 ["held", "variable"] (spHowManyPlaces K) := fun base => ⟨_, _, okHowManyPlaces F_how_many_places G_FIRST_AT_ONE G_APART N_len (K_great_ones base) (K_others_than base), PySem.W.mg_of X G a_how_many_places, k_how_many_places, b_how_many_places⟩
  have F_spread := fun_mk (st := sSpread) l_spread c_spread k_spread
  have b_spread := F_spread.binds (ps := ["number", "great"]) fun _ _ _ _ _ _ us hl => match us, hl with | [_, _], _ => rfl
  have K_spread : ∀ base : Heap, Callee P w K mg base "spread" 2 ["number", "great"] (spSpread K) := fun base => ⟨_, _, okSpread F_spread G_FIRST_AT_ONE G_APART (K_is_great base), PySem.W.mg_of X G a_spread, k_spread, b_spread⟩
  have F_with_place := fun_mk (st := sWithPlace) l_with_place c_with_place k_with_place
  have b_with_place := F_with_place.binds (ps := ["held", "variable", "place"]) fun _ _ _ _ _ _ us hl => match us, hl with | [_, _, _], _ => rfl
  have K_with_place : ∀ base : Heap, Callee P w K mg base "with_place" 3 ["held", "variable", "place"] (spWithPlace K) := fun base => ⟨_, _, okWithPlace F_with_place N_enumerate (K_great_ones base) (K_others_than base) (K_spread base), PySem.W.mg_of X G a_with_place, k_with_place, b_with_place⟩
  have F___init__ := fun_mk (st := sInit) l___init__ c___init__ k___init__
  have b___init__ := F___init__.binds (ps := ["self", "kind", "v", "w", "c", "none", "choice"]) fun _ _ _ _ _ _ us hl => match us, hl with | [_, _, _, _, _, _, _], _ => rfl
  have K___init__ : ∀ base : Heap, Maker P w K mg base C 1 ["self", "kind", "v", "w", "c", "none", "choice"] (spInit C) := fun base => ⟨_, _, ⟨mk, a___init__, i___init__, kc⟩, okInit F___init__ T, b___init__⟩
  have F_are_variables := fun_mk (st := sAreVariables) l_are_variables c_are_variables k_are_variables
  have b_are_variables := F_are_variables.binds (ps := ["step", "held"]) fun _ _ _ _ _ _ us hl => match us, hl with | [_, _], _ => rfl
  have K_are_variables : ∀ base : Heap, Callee P w K mg base "are_variables" 1 ["step", "held"] (spAreVariables K C) := fun base => ⟨_, _, okAreVariables F_are_variables G_COPY G_LESS G_END N_len T, PySem.W.mg_of X G a_are_variables, k_are_variables, b_are_variables⟩
  have F_is_number := fun_mk (st := sIsNumber) l_is_number c_is_number k_is_number
  have b_is_number := F_is_number.binds (ps := ["step"]) fun _ _ _ _ _ _ us hl => match us, hl with | [_], _ => rfl
  have K_is_number : ∀ base : Heap, Callee P w K mg base "is_number" 1 ["step"] (spIsNumber C) := fun base => ⟨_, _, okIsNumber F_is_number G_PUT G_SMALL T, PySem.W.mg_of X G a_is_number, k_is_number, b_is_number⟩
  have F_is_choice := fun_mk (st := sIsChoice) l_is_choice c_is_choice k_is_choice
  have b_is_choice := F_is_choice.binds (ps := ["step", "held"]) fun _ _ _ _ _ _ us hl => match us, hl with | [_, _], _ => rfl
  have K_is_choice : ∀ base : Heap, Callee P w K mg base "is_choice" 4 ["step", "held"] (spIsChoice K C) := fun base => ⟨_, _, okIsChoice F_is_choice G_ANY (K_how_many_places base) T, PySem.W.mg_of X G a_is_choice, k_is_choice, b_is_choice⟩
  have F_is_as_told := fun_mk (st := sIsAsTold) l_is_as_told c_is_as_told k_is_as_told
  have b_is_as_told := F_is_as_told.binds (ps := ["step", "held"]) fun _ _ _ _ _ _ us hl => match us, hl with | [_, _], _ => rfl
  have K_is_as_told : ∀ base : Heap, Callee P w K mg base "is_as_told" 5 ["step", "held"] (spIsAsTold K C) := fun base => ⟨_, _, okIsAsTold F_is_as_told G_TELL (K_are_variables base) (K_is_number base) (K_is_choice base) T, PySem.W.mg_of X G a_is_as_told, k_is_as_told, b_is_as_told⟩
  have F_with_number := fun_mk (st := sWithNumber) l_with_number c_with_number k_with_number
  have b_with_number := F_with_number.binds (ps := ["held", "variable", "number"]) fun _ _ _ _ _ _ us hl => match us, hl with | [_, _, _], _ => rfl
  have K_with_number : ∀ base : Heap, Callee P w K mg base "with_number" 1 ["held", "variable", "number"] (spWithNumber K) := fun base => ⟨_, _, okWithNumber F_with_number, PySem.W.mg_of X G a_with_number, k_with_number, b_with_number⟩
  have F_behind := fun_mk (st := sBehind) l_behind c_behind k_behind
  have b_behind := F_behind.binds (ps := ["step", "held"]) fun _ _ _ _ _ _ us hl => match us, hl with | [_, _], _ => rfl
  have K_behind : ∀ base : Heap, Callee P w K mg base "behind" 4 ["step", "held"] (spBehind K C) := fun base => ⟨_, _, okBehind F_behind G_ANY G_PUT G_COPY N_list (K_with_place base) (K_with_number base) T, PySem.W.mg_of X G a_behind, k_behind, b_behind⟩
  have F_shape_behind := fun_mk (st := sShapeBehind) l_shape_behind c_shape_behind k_shape_behind
  have b_shape_behind := F_shape_behind.binds (ps := ["step", "held"]) fun _ _ _ _ _ _ us hl => match us, hl with | [_, _], _ => rfl
  have K_shape_behind : ∀ base : Heap, Callee P w K mg base "shape_behind" 5 ["step", "held"] (spShapeBehind K C) := fun base => ⟨_, _, okShapeBehind F_shape_behind (K_shape_of base) (K_behind base), PySem.W.mg_of X G a_shape_behind, k_shape_behind, b_shape_behind⟩
  have F_is_so := fun_mk (st := sIsSo) l_is_so c_is_so k_is_so
  have b_is_so := F_is_so.binds (ps := ["step", "held"]) fun _ _ _ _ _ _ us hl => match us, hl with | [_, _], _ => rfl
  have K_is_so : ∀ base : Heap, Callee P w K mg base "is_so" 1 ["step", "held"] (spIsSo K C) := fun base => ⟨_, _, okIsSo F_is_so G_LESS G_SMALL T, PySem.W.mg_of X G a_is_so, k_is_so, b_is_so⟩
  have F_answer_of := fun_mk (st := sAnswerOf) l_answer_of c_answer_of k_answer_of
  have b_answer_of := F_answer_of.binds (ps := ["step", "held"]) fun _ _ _ _ _ _ us hl => match us, hl with | [_, _], _ => rfl
  have K_answer_of : ∀ base : Heap, Callee P w K mg base "answer_of" 2 ["step", "held"] (spAnswerOf K C) := fun base => ⟨_, _, okAnswerOf F_answer_of G_END G_ENDED G_DONE G_IS_NOT (K_is_so base) T, PySem.W.mg_of X G a_answer_of, k_answer_of, b_answer_of⟩
  have F_ts_step := fun_mk (st := sTsStep) l_ts_step c_ts_step k_ts_step
  exact ⟨_, fun s us hu => match us, hu with | [_, _, _, _, _, _, _, _, _, _, _], _ => .of_eq rfl, fun base _ _ => okTsStep F_ts_step (K_is_many base) (K_is_right base) (K_refused base) (K_is_as_told base) (K_with_shape base) (K_answer_of base) (K_filled base) (K_shape_behind base) (K___init__ base) (PySem.W.mg_of X G aC)⟩
end Sh
open PySem PySem.W PyProof.Rows
set_option maxRecDepth 100000 in
set_option maxHeartbeats 8000000 in
theorem PySem.Challenge.cw_shapestep_s04_ts_step_holds : PySem.Challenge.rw_shapestep_s04_ts_step.Holds := by
  w_on; k_headS; (case hw => exact ⟨[.int 0, .int 0, .int 0, .int 0, .int 0, .int 0, .int 0, .int 0, .int 0, .int 0, .list [.int 0, .int 0, .int 0]], by decide +kernel, by decide +kernel⟩)
  k_fillS
  refine L2.walk_specK (r := PySem.Challenge.rw_shapestep_s04_ts_step) (k := 6) (CX := L2.CX0) (ps := ["variables", "kind", "v", "w", "c", "a", "b", "step_none", "choice", "shape_none", "at"]) (sp := fun K => Sh.spTsStep K) (by decide +kernel) rfl rfl ⟨rfl, by decide, by decide⟩ (fun w h Y => PySem.W.kIn_of Y) ?F ?S (fun _ _ _ _ z => z)
  case F =>
    intro w mg fa h Y KX G hmg
    refine' Sh.all_mk KX G hmg ?aC ?a_number_alone ?l_number_alone ?c_number_alone ?k_number_alone ?a_refused ?l_refused ?c_refused ?k_refused ?a_with_shape ?l_with_shape ?c_with_shape ?k_with_shape ?a_filled ?l_filled ?c_filled ?k_filled ?a_is_great ?l_is_great ?c_is_great ?k_is_great ?a_great_ones ?l_great_ones ?c_great_ones ?k_great_ones ?a_how_many_less ?l_how_many_less ?c_how_many_less ?k_how_many_less ?a_told_as ?l_told_as ?c_told_as ?k_told_as ?a_shape_of ?l_shape_of ?c_shape_of ?k_shape_of ?a_is_many ?l_is_many ?c_is_many ?k_is_many ?a_is_right ?l_is_right ?c_is_right ?k_is_right ?a_others_than ?l_others_than ?c_others_than ?k_others_than ?a_how_many_places ?l_how_many_places ?c_how_many_places ?k_how_many_places ?a_spread ?l_spread ?c_spread ?k_spread ?a_with_place ?l_with_place ?c_with_place ?k_with_place ?a___init__ ?i___init__ ?l___init__ ?c___init__ ?k___init__ ?a_are_variables ?l_are_variables ?c_are_variables ?k_are_variables ?a_is_number ?l_is_number ?c_is_number ?k_is_number ?a_is_choice ?l_is_choice ?c_is_choice ?k_is_choice ?a_is_as_told ?l_is_as_told ?c_is_as_told ?k_is_as_told ?a_with_number ?l_with_number ?c_with_number ?k_with_number ?a_behind ?l_behind ?c_behind ?k_behind ?a_shape_behind ?l_shape_behind ?c_shape_behind ?k_shape_behind ?a_is_so ?l_is_so ?c_is_so ?k_is_so ?a_answer_of ?l_answer_of ?c_answer_of ?k_answer_of ?a_ts_step ?l_ts_step ?c_ts_step ?k_ts_step ?g_NOT_SO ?g_MANY_AT ?g_SMALLEST_GREAT ?g_MOST_VARIABLES ?g_FIRST_AT_ONE ?g_APART ?g_END ?g_ANY ?g_PUT ?g_COPY ?g_LESS ?g_SMALL ?g_TELL ?g_DONE ?g_IS_NOT ?g_ENDED ?n_any ?n_enumerate ?n_len ?n_list ?n_sorted ?pg ?hd ?po ?sa ?mk ?kc ?x_kind ?x_v ?x_w ?x_c ?x_none ?x_choice
    (case aC => k_is)
    (case a_number_alone => k_is)
    (case l_number_alone => k_is)
    (case c_number_alone => k_is)
    (case k_number_alone => k_is)
    (case a_refused => k_is)
    (case l_refused => k_is)
    (case c_refused => k_is)
    (case k_refused => k_is)
    (case a_with_shape => k_is)
    (case l_with_shape => k_is)
    (case c_with_shape => k_is)
    (case k_with_shape => k_is)
    (case a_filled => k_is)
    (case l_filled => k_is)
    (case c_filled => k_is)
    (case k_filled => k_is)
    (case a_is_great => k_is)
    (case l_is_great => k_is)
    (case c_is_great => k_is)
    (case k_is_great => k_is)
    (case a_great_ones => k_is)
    (case l_great_ones => k_is)
    (case c_great_ones => k_is)
    (case k_great_ones => k_is)
    (case a_how_many_less => k_is)
    (case l_how_many_less => k_is)
    (case c_how_many_less => k_is)
    (case k_how_many_less => k_is)
    (case a_told_as => k_is)
    (case l_told_as => k_is)
    (case c_told_as => k_is)
    (case k_told_as => k_is)
    (case a_shape_of => k_is)
    (case l_shape_of => k_is)
    (case c_shape_of => k_is)
    (case k_shape_of => k_is)
    (case a_is_many => k_is)
    (case l_is_many => k_is)
    (case c_is_many => k_is)
    (case k_is_many => k_is)
    (case a_is_right => k_is)
    (case l_is_right => k_is)
    (case c_is_right => k_is)
    (case k_is_right => k_is)
    (case a_others_than => k_is)
    (case l_others_than => k_is)
    (case c_others_than => k_is)
    (case k_others_than => k_is)
    (case a_how_many_places => k_is)
    (case l_how_many_places => k_is)
    (case c_how_many_places => k_is)
    (case k_how_many_places => k_is)
    (case a_spread => k_is)
    (case l_spread => k_is)
    (case c_spread => k_is)
    (case k_spread => k_is)
    (case a_with_place => k_is)
    (case l_with_place => k_is)
    (case c_with_place => k_is)
    (case k_with_place => k_is)
    (case a___init__ => k_is)
    (case i___init__ => k_is)
    (case l___init__ => k_is)
    (case c___init__ => k_is)
    (case k___init__ => k_is)
    (case a_are_variables => k_is)
    (case l_are_variables => k_is)
    (case c_are_variables => k_is)
    (case k_are_variables => k_is)
    (case a_is_number => k_is)
    (case l_is_number => k_is)
    (case c_is_number => k_is)
    (case k_is_number => k_is)
    (case a_is_choice => k_is)
    (case l_is_choice => k_is)
    (case c_is_choice => k_is)
    (case k_is_choice => k_is)
    (case a_is_as_told => k_is)
    (case l_is_as_told => k_is)
    (case c_is_as_told => k_is)
    (case k_is_as_told => k_is)
    (case a_with_number => k_is)
    (case l_with_number => k_is)
    (case c_with_number => k_is)
    (case k_with_number => k_is)
    (case a_behind => k_is)
    (case l_behind => k_is)
    (case c_behind => k_is)
    (case k_behind => k_is)
    (case a_shape_behind => k_is)
    (case l_shape_behind => k_is)
    (case c_shape_behind => k_is)
    (case k_shape_behind => k_is)
    (case a_is_so => k_is)
    (case l_is_so => k_is)
    (case c_is_so => k_is)
    (case k_is_so => k_is)
    (case a_answer_of => k_is)
    (case l_answer_of => k_is)
    (case c_answer_of => k_is)
    (case k_answer_of => k_is)
    (case a_ts_step => k_is)
    (case l_ts_step => k_is)
    (case c_ts_step => k_is)
    (case k_ts_step => k_is)
    (case g_NOT_SO => k_is)
    (case g_MANY_AT => k_is)
    (case g_SMALLEST_GREAT => k_is)
    (case g_MOST_VARIABLES => k_is)
    (case g_FIRST_AT_ONE => k_is)
    (case g_APART => k_is)
    (case g_END => k_is)
    (case g_ANY => k_is)
    (case g_PUT => k_is)
    (case g_COPY => k_is)
    (case g_LESS => k_is)
    (case g_SMALL => k_is)
    (case g_TELL => k_is)
    (case g_DONE => k_is)
    (case g_IS_NOT => k_is)
    (case g_ENDED => k_is)
    (case n_any => k_is)
    (case n_enumerate => k_is)
    (case n_len => k_is)
    (case n_list => k_is)
    (case n_sorted => k_is)
    (case pg => k_is)
    (case hd => k_is)
    (case po => k_is)
    (case sa => k_is)
    (case mk => k_is)
    (case kc => k_is)
    (case x_kind => k_is)
    (case x_v => k_is)
    (case x_w => k_is)
    (case x_c => k_is)
    (case x_none => k_is)
    (case x_choice => k_is)
  case S =>
    intro K H xs a hO hwi hask hx
    obtain ⟨z0, a⟩ := a
    obtain ⟨z1, a⟩ := a
    obtain ⟨z2, a⟩ := a
    obtain ⟨z3, a⟩ := a
    obtain ⟨z4, a⟩ := a
    obtain ⟨z5, a⟩ := a
    obtain ⟨z6, a⟩ := a
    obtain ⟨z7, a⟩ := a
    obtain ⟨z8, a⟩ := a
    obtain ⟨z9, a⟩ := a
    obtain ⟨l, _⟩ := a
    have q : (Codec.inInt 0 9223372036854775807 z0 && (Codec.inInt 0 9223372036854775807 z1 && (Codec.inInt 0 9223372036854775807 z2 && (Codec.inInt 0 9223372036854775807 z3 && (Codec.inInt 0 9223372036854775807 z4 && (Codec.inInt 0 9223372036854775807 z5 && (Codec.inInt 0 9223372036854775807 z6 && (Codec.inInt 0 9223372036854775807 z7 && (Codec.inInt 0 9223372036854775807 z8 && (Codec.inInt 0 9223372036854775807 z9 && ((Codec.inLen 3 3 l && l.all (Codec.inInt 0 9223372036854775807)) && true))))))))))) = true := hwi
    simp only [Bool.and_eq_true] at q
    obtain ⟨h0, ⟨h1, ⟨h2, ⟨h3, ⟨h4, ⟨h5, ⟨h6, ⟨h7, ⟨h8, ⟨h9, ⟨⟨hlen, hall⟩, _⟩⟩⟩⟩⟩⟩⟩⟩⟩⟩⟩ := q
    have p0 := (Codec.inInt_iff.mp h0).1
    have p1 := (Codec.inInt_iff.mp h1).1
    have p2 := (Codec.inInt_iff.mp h2).1
    have p3 := (Codec.inInt_iff.mp h3).1
    have p4 := (Codec.inInt_iff.mp h4).1
    have p5 := (Codec.inInt_iff.mp h5).1
    have p6 := (Codec.inInt_iff.mp h6).1
    have p7 := (Codec.inInt_iff.mp h7).1
    have p8 := (Codec.inInt_iff.mp h8).1
    have p9 := (Codec.inInt_iff.mp h9).1
    have pall : ∀ z ∈ l, 0 ≤ z := fun z hz => (Codec.inInt_iff.mp (List.all_eq_true.mp hall z hz)).1
    have len : (Kp126Neutral.nats l).length = l.length := List.length_map ..
    obtain ⟨len1, len2⟩ := Codec.inNat_iff.mp hlen
    cases hx with
    | cons hz0 hx =>
    cases hz0
    cases hx with
    | cons hz1 hx =>
    cases hz1
    cases hx with
    | cons hz2 hx =>
    cases hz2
    cases hx with
    | cons hz3 hx =>
    cases hz3
    cases hx with
    | cons hz4 hx =>
    cases hz4
    cases hx with
    | cons hz5 hx =>
    cases hz5
    cases hx with
    | cons hz6 hx =>
    cases hz6
    cases hx with
    | cons hz7 hx =>
    cases hz7
    cases hx with
    | cons hz8 hx =>
    cases hz8
    cases hx with
    | cons hz9 hx =>
    cases hz9
    cases hx with
    | cons hl hx =>
    cases hx
    cases hl with
    | lst hs ha =>
    have e := L2.ints_dw l _ ha
    subst e
    rw [Sh.nats_nv pall] at hs
    rw [← Int.toNat_of_nonneg p0, ← Int.toNat_of_nonneg p1, ← Int.toNat_of_nonneg p2, ← Int.toNat_of_nonneg p3, ← Int.toNat_of_nonneg p4, ← Int.toNat_of_nonneg p5, ← Int.toNat_of_nonneg p6, ← Int.toNat_of_nonneg p7, ← Int.toNat_of_nonneg p8, ← Int.toNat_of_nonneg p9]
    exact ⟨_, z0.toNat, z9.toNat, z8.toNat, ⟨z1.toNat, z2.toNat, z3.toNat, z4.toNat, z5.toNat, z6.toNat, z7.toNat⟩, Kp126Neutral.nats l, rfl, hs, by omega, Sh.dw_due _ fun H' v h => h⟩
